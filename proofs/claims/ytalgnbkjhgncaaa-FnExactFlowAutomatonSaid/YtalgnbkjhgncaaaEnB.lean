/- THE ENGINE, PART 2: a generator of conditions over the register code, and its soundness. No condition. -/
import Derived.Test.YtalgnbkjhgncaaaEnA
set_option linter.all false
namespace Go.Ax
section
variable {P:Program}{st:St}{K:Exit→St→Prop}{n:Nat}{env:List (Nat×AV)}{us:List (Nat×U)}
variable {c:RC}{fS:St}
@[congr] def afJ{st:St}(h:st=fS):qu P c st K=qu P c fS K:=by rw[h]
variable {l:List RO}
@[congr] def aaN{st:St}(h:st=fS):gl P l st K=gl P l fS K:=by rw[h]
@[congr] def afn{st:St}(h:st=fS):g7 P l K st=g7 P l K fS:=by rw[h]
@[congr] def kR_cg{st:St}(h:st=fS):kR P c K st=kR P c K fS:=by rw[h]
variable {e:Exit}{f:St→Prop}
@[congr] def aeB{e':Exit}{st:St}(h:e=e')(h':st=fS):vw f K e st=vw f K e' fS:=by rw[h,h']
variable {i:Nat}
@[congr] def aeZ{e':Exit}{st:St}(h:e=e')(h':st=fS):D7 i K e st=D7 i K e' fS:=by rw[h,h']
variable {v v':AV}
@[congr] def kq_cg{st:St}{d:Option Nat}{us us':List (Nat×U)}(h:st=fS)(hv:v=v')(hu:us=us'):kq f st d v us=kq f fS d v' us':=by rw[h,hv,hu]
variable {c':AV}{p q:Prop}
@[congr] def acn{c:AV}(h:c=c'):si c p q=si c' p q:=by rw[h]
variable {b:Bool}
@[congr] def ae7{c:AV}(h:c=c'):nK c b p q=nK c' b p q:=by rw[h]
def Ox:qu P .skip st K=K .normal st:=rfl
def RM{ops:List RO}:qu P (.gt b ops) st K=gl P ops st K:=rfl
@[congr] def aeU{l:List (List lz×RO)}{st:St}(h:st=fS):Gx P l st K=Gx P l fS K:=by rw[h]
@[congr] def kE_cg{l:List (List lz×RO)}{st:St}(h:st=fS):kE P l K e st=kE P l K e fS:=by rw[h]
@[congr] def aaD{l:List lz}{st:St}(h:st=fS):ml P l st=ml P l fS:=by rw[h]
attribute [go_sem ↓] Ox RM
variable {d:Nat}
@[congr] def kC_cg{st:St}{us:List (Nat×U)}(h:st=fS)(hv:v=v'):kC st d v us=kC fS d v' us:=by rw[h,hv]
variable {R:List RO}
def L6{T:Tr}:qu P (.O7 R T) st K=vcA P R T st (K .normal):=rfl
def Qy{k:St→Prop}:wb P R (.br []) st k=k st:=by simp[wb,uV]
def XX{k:St→Prop}{x:Nat×Tr}{l:List (Nat×Tr)}:wb P R (.br (x::l)) st k=uV P R (x::l) st k True:=by
 simp only[wb,reduceCtorEq,cx]
def LT{k:St→Prop}:uV P R [] st k q=q:=by simp only[uV]
def IE{k:St→Prop}{t:Tr}{l:List (Nat×Tr)}:uV P R ((i,t)::l) st k q=(gl P [R.getD i default] st (fun _ s=>wb P R t s k)∧uV P R l st k q):=by simp only[uV]
attribute [go_sem ↓] L6 Qy XX LT IE
variable {T:KA}
@[congr] def aft{st:St}(h:st=fS):pn P T st K=pn P T fS K:=by rw[h]
@[congr] def kT_cg{st:St}(h:st=fS):kT P T K e st=kT P T K e fS:=by rw[h]
def NO{N:List RO}:qu P (.ZS N T) st K=gl P N st (kT P T K):=rfl
attribute [go_sem ↓] NO
variable {E:List RO}
def LQ{N:List PO}:qu P (.ZT N E) st K=sT P N st (kP P (wd N) E K):=rfl
attribute [go_sem ↓] LQ
variable {KK:St→Prop}
@[congr] def aeG{l:List PO}{st:St}(h:st=fS):sT P l st KK=sT P l fS KK:=by rw[h]
@[congr] def kP_cg{C:List Nat}{st:St}(h:st=fS):kP P C E K st=kP P C E K fS:=by rw[h]
def My:sT P [] st KK=KK st:=rfl
def W3{r:RO}{l:List PO}:sT P (.q r::l) st KK=gl P [r] st (fun _ s=>sT P l s KK):=rfl
attribute [go_sem ↓] My W3
variable {sz:Nat}
def ZM{b x y:Nat}{l:List PO}:sT P (.a d sz b x y::l) st KK=YB (st.get x) (st.get y) (st.unit x) (st.unit y) d sz b x y st (fun s=>sT P l s KK):=rfl
def ads{C:List Nat}:kP P C E K st=((vn C st.env=true∧qK C st.us=true)∧gl P E st K):=rfl
attribute [go_sem ↓] ZM
attribute [go_sem] ads
variable {a':AV}{bytes:Nat}{u u':Option U}
@[congr] def aga{a b b':AV}{v v':Option U}{x y:Nat}{k:St→Prop}(h1:a=a')(h2:b=b')(h3:u=u')(h4:v=v'):YB a b u v d sz bytes x y st k=YB a' b' u' v' d sz bytes x y st k:=by rw[h1,h2,h3,h4]
variable {es:List D}{gv:Nat}{nn:Option Bool}
def X9{x' y' x y w6:Nat}{d0:D}{k:St→Prop}:YB (.tr x') (.vb y' 1) (some (.own (.ls nn gv es))) (some (.bx w6 [.im none d0])) d sz bytes x y st k=
 ((x'=x∧y'=y)∧(x≠y∧gv=sz∧w6=sz∧0<sz∧d0.flat=true∧d0.size=sz∧(es.length+1)*bytes≤140737488355328∧es.length+1≤gp∧st.fresh [(d,.own .jk)]=true)∧k (st.apJ d sz x y (es++[d0]))):=rfl
attribute [go_sem] X9
attribute [go_sem] St.apJ Cq wd vn x7 qK
def ab8:kT P T K e st=pn P T st K:=rfl
attribute [go_sem ↓] ab8
variable {cs:List lz}
def MA:pn P (.br cs []) st K=(ml P cs st∧K .normal st):=by simp[pn,qb]
def QQ{x:RO×KA}{l:List (RO×KA)}:pn P (.br cs (x::l)) st K=(ml P cs st∧qb P (x::l) st K True):=by
 simp only[pn,reduceCtorEq,cx]
def Ik:qb P [] st K q=q:=by simp only[qb]
def E9{r:RO}{t:KA}{l:List (RO×KA)}:qb P ((r,t)::l) st K q=(gl P [r] st (kT P t K)∧qb P l st K q):=by simp only[qb];rfl
def M8{N:List RO}{E:List (List lz×RO)}:qu P (.adv N E) st K=gl P N st (kE P E K):=rfl
def abX{l:List (List lz×RO)}:kE P l K e st=Gx P l st K:=rfl
def Mr:Gx P [] st K=K .normal st:=rfl
def IL{r:RO}{l:List (List lz×RO)}:Gx P ((cs,r)::l) st K=(ml P cs st∧gl P [r] st (kE P l K)):=rfl
def E8:ml P [] st=True:=rfl
def CG{c:lz}:ml P (c::cs) st=(pk P c st∧ml P cs st):=rfl
def WY:kC st d v []=(v=st.get d):=by simp[kC]
def Xx{x:X}:pk P (.mv d x) st=kC st d (st.ev x) []:=rfl
attribute [go_sem ↓] MA QQ Ik E9 M8 abX Mr IL E8 CG Xx
attribute [go_sem] WY
variable {agg:Bool}
def YM{a:X}:pk P (.ld d agg sz a) st=zX (st.ev a) st.unit agg sz (kC st d):=rfl
attribute [go_sem ↓] YM
variable {off:Nat}
def Xe{x:X}:pk P (.fa d off x) st=yY (st.ev x) st.unit off (kC st d):=rfl
def YO{x:X}:pk P (.fl d off sz agg x) st=Jo (st.ev x) st.unit off sz agg (kC st d):=rfl
def Xl{x i:X}:pk P (.ia d sz x i) st=D6 (st.ev x) (st.ev i) st.unit sz (kC st d):=rfl
def T4{x:X}:pk P (.len d x) st=pO (st.ev x) st.unit (kC st d):=rfl
def Um{x:X}:pk P (.nck d x) st=qA (st.ev x) (kC st d):=rfl
def Qm{x:X}:pk P (.ext d x i) st=wE (st.ev x) i (kC st d):=rfl
def Tn{a b:RC}:qu P (.seq a b) st K=qu P a st (vw (kR P b K) K):=rfl
def OU{x:X}{a b:RC}:qu P (.cond x a b) st K=si (st.ev x) (qu P a st K) (qu P b st K):=rfl
def Un:qu P (.iV i c) st K=qu P c st (D7 i K):=rfl
def LS:qu P (.exit i) st K=K (.exit i) st:=rfl
def TB:qu P .ret st K=K .ret st:=rfl
def acz:kR P c K st=qu P c st K:=rfl
def R1:g7 P l K st=gl P l st K:=rfl
def Ef:vw f K .normal st=f st:=rfl
def Nd:vw f K .ret st=K .ret st:=rfl
def Ip:vw f K (.exit i) st=K (.exit i) st:=rfl
def CQ:D7 i K .normal st=K .normal st:=rfl
def Mt:D7 i K .ret st=K .ret st:=rfl
attribute [go_sem ↓] Xe YO Xl T4 Um Qm Tn OU Un LS TB acz R1 Ef Nd Ip CQ Mt
variable {j:Nat}
def Kq:D7 i K (.exit j) st=if j=i then K .normal st else K (.exit j) st:=rfl
attribute [go_sem] Kq
variable {t:Option Nat}
def Sn:si (.im t (.sc (.bool b))) p q=((b=true→p)∧(b=false→q)):=rfl
def WI:nK (.jS []) b p q=q:=rfl
def WG{c:Bool}:nK (.im t (.sc (.bool c))) b p q=((c=b→p)∧(c=!b→q)):=rfl
def Ki:gl P [] st K=K .normal st:=rfl
def IX{t:Nat}{r:lz}:gl P (⟨some (t,b),r⟩::l) st K=nK (st.get t) b (gl P (⟨none,r⟩::l) st K) (gl P l (st.kl r.dst (.jS [])) K):=rfl
def WF{d:Option Nat}:kq f st d v []=f (st.kl d v):=rfl
def RL{d:Option Nat}{x:Nat×U}{us:List (Nat×U)}:kq f st d v (x::us)=(st.fresh (x::us)=true∧f ((st.iQ (x::us)).kl d v)):=rfl
def Ic:St.kl ⟨n,env,us⟩ (some d) v=⟨n,(d,v)::env,us⟩:=rfl
def Ko:St.kl ⟨n,env,us⟩ none v=⟨n,env,us⟩:=rfl
def RH:St.set ⟨n,env,us⟩ d v=⟨n,(d,v)::env,us⟩:=rfl
def Ji{vs:List (Nat×U)}:St.iQ ⟨n,env,us⟩ vs=⟨n,env,vs++us⟩:=rfl
def agC:St.ev ⟨n,env,us⟩ (.t i)=lk env i:=rfl
def age{d:D}:st.ev (.c d)=pi d:=rfl
def R2:St.get ⟨n,env,us⟩ i=lk env i:=rfl
def NB:St.unit ⟨n,env,us⟩ i=lu us i:=rfl
def Tg{k t:Nat}{r:List (Nat×AV)}:lk ((k,v)::r) t=if k=t then v else lk r t:=rfl
def XN{t:Nat}:lk [] t=.any:=rfl
def Q5{k t:Nat}{v:U}{r:List (Nat×U)}:lu ((k,v)::r) t=if k=t then some v else lu r t:=rfl
def ZI{t:Nat}:lu [] t=none:=rfl
attribute [go_sem] Sn WI WG IX WF RL Ic Ko RH Ji agC age R2 NB Tg XN Q5 ZI
attribute [go_sem ↓] Ki
attribute [go_sem] iy fQ kS U.kill AV.refs AV.kI AV.soft AV.mP AV.lX o9
def Ue{k:Nat}:St.del ⟨n,env,us⟩ k=⟨n,iy (AV.refs k) env,fQ k (AV.refs k) us⟩:=rfl
def Ov{k:Nat}{el:Option Nat}{u:U}:St.KH ⟨n,env,us⟩ k el u=⟨n,iy (AV.lX k el) env,(k,u)::fQ k (AV.lX k el) us⟩:=rfl
def Qk{k:Nat}{u:U}:St.mc ⟨n,env,us⟩ k u=⟨n,iy (AV.soft k) env,(k,u)::fQ k (AV.soft k) us⟩:=rfl
def QN{k:Nat}{u:U}:St.upr ⟨n,env,us⟩ k u=⟨n,iy (AV.refs k) env,(k,u)::fQ k (AV.refs k) us⟩:=rfl
def In:st.fresh []=true:=rfl
def Gg{x:Nat×U}{r:List (Nat×U)}:St.fresh ⟨n,env,us⟩ (x::r)=(o9 x.1 us&&o9 x.1 r&&St.fresh ⟨n,env,us⟩ r):=rfl
def NP{x:X}:gl P (⟨none,.mv d x⟩::l) st K=kq (g7 P l K) st (some d) (st.ev x) []:=rfl
def Fx{c a b:X}:gl P (⟨none,.pick d c a b⟩::l) st K=pr (st.ev c) (st.ev a) (st.ev b) (kq (g7 P l K) st (some d)):=rfl
def Kl{x:X}:gl P (⟨none,.box d sz x⟩::l) st K=uR (st.ev x) st.unit d sz (kq (g7 P l K) st (some d)):=rfl
attribute [go_sem] Ue Ov Qk QN In Gg
attribute [go_sem ↓] NP Fx Kl
variable {z:D}
def H6:gl P (⟨none,.zer d sz z⟩::l) st K=((0<sz∧z.size=sz∧z.gJ=true)∧kq (g7 P l K) st (some d) (.pw d 0 0) [(d,.ar true (some false) sz [z])]):=rfl
def Lv{g:Bool}{a:X}:gl P (⟨none,.ld d g sz a⟩::l) st K=zX (st.ev a) st.unit g sz (kq (g7 P l K) st (some d)):=rfl
def II{x:X}:gl P (⟨none,.nck d x⟩::l) st K=qA (st.ev x) (kq (g7 P l K) st (some d)):=rfl
attribute [go_sem ↓] H6 Lv II
variable {y:X}
def Ka{op:BinOp}{x:X}:gl P (⟨none,.bin d op x y⟩::l) st K=CF op (st.ev x) (st.ev y) (kq (g7 P l K) st (some d)):=rfl
attribute [go_sem ↓] Ka
variable {neg:Bool}
def Kd{x:X}:gl P (⟨none,.beq d neg x y⟩::l) st K=C4 neg (st.ev x) (st.ev y) (kq (g7 P l K) st (some d)):=rfl
def FO{x:X}:gl P (⟨none,.snil d neg x y⟩::l) st K=vV neg (st.ev x) (st.ev y) (kq (g7 P l K) st (some d)):=rfl
def I5{n:Nat}{x:X}:gl P (⟨none,.ceq d neg n x y⟩::l) st K=Dw neg (st.ev x) (st.ev y) n (kq (g7 P l K) st (some d)):=rfl
def NT{op:UnOp}{x:X}:gl P (⟨none,.un d op x⟩::l) st K=Q1 op (st.ev x) (kq (g7 P l K) st (some d)):=rfl
def Ks{kd:IntKind}{x:X}:gl P (⟨none,.cvt d kd x⟩::l) st K=Dt kd (st.ev x) (kq (g7 P l K) st (some d)):=rfl
def NJ{q c:X}:gl P (⟨none,.mk d sz bytes z q c⟩::l) st K=VC (st.ev q) (st.ev c) d sz bytes z (kq (g7 P l K) st (some d)):=rfl
attribute [go_sem ↓] Kd FO I5 NT Ks NJ
variable {hi lo:Option X}
def JW{x:X}:gl P (⟨none,.slc d sz x lo hi⟩::l) st K=yp (st.ev x) st.ev st.unit sz lo hi (kq (g7 P l K) st (some d)):=rfl
def M2{x:X}:gl P (⟨none,.fa d off x⟩::l) st K=yY (st.ev x) st.unit off (kq (g7 P l K) st (some d)):=rfl
def Mz{g:Bool}{x:X}:gl P (⟨none,.fl d off sz g x⟩::l) st K=Jo (st.ev x) st.unit off sz g (kq (g7 P l K) st (some d)):=rfl
attribute [go_sem ↓] JW M2 Mz
variable {xs:List X}
def J5{f:Nat}:gl P (⟨none,.mkf d f xs⟩::l) st K=kq (g7 P l K) st (some d) (.cl f (xs.map st.ev)) []:=rfl
def H8{x:X}:gl P (⟨none,.s30 d sz x⟩::l) st K=Ds (st.ev x) sz (kq (g7 P l K) st (some d)):=rfl
attribute [go_sem ↓] J5 H8
variable {mx:Bool}
def Kj{x:X}:gl P (⟨none,.mxm d mx x y⟩::l) st K=Vt mx (st.ev x) (st.ev y) (kq (g7 P l K) st (some d)):=rfl
def Jy:gl P (⟨none,.bse d sz⟩::l) st K=(0<sz∧kq (g7 P l K) st (some d) (.z0 (some false) sz) []):=rfl
def I3{x:X}:gl P (⟨none,.ape d sz bytes x y⟩::l) st K=CE (st.ev x) (st.ev y) sz bytes (kq (g7 P l K) st (some d)):=rfl
attribute [go_sem ↓] Kj Jy I3
variable {x x' y':AV}{k:KQ}
@[congr] def afs{y:AV}(h0:x=x')(h1:y=y'):CE x y sz bytes k=CE x' y' sz bytes k:=by rw[h0,h1]
variable {ds:List D}
def WX{q:Option Bool}{O8:Nat}:CE (.z0 nn gv) (.im none (.ls q O8 ds)) sz bytes k=((gv=sz∧O8=sz∧nn=some false∧0<sz∧ds.length*bytes≤140737488355328∧ds.length≤gp)∧k (.im none (.ls (some false) sz ds)) []):=rfl
def Is{x:X}:gl P (⟨none,.cvs d x⟩::l) st K=Bt (st.ev x) st.unit (kq (g7 P l K) st (some d)):=rfl
attribute [go_sem] WX
attribute [go_sem ↓] Is
variable {un:Nat→Option U}
@[congr] def afl(h0:x=x'):Bt x un k=Bt x' un k:=by rw[h0]
variable {len:Nat}
def Uu{id:Nat}:Bt (.vb id len) un k=Dq (un id) len k:=rfl
@[congr] def aem(h0:u=u'):Dq u len k=Dq u' len k:=by rw[h0]
attribute [go_sem] Uu
variable {items:List AV}
def R8:Dq (some (.bx sz items)) len k=((sz=1∧len=items.length)∧FR (n8 items) k):=rfl
@[congr] def aej{q q':Option (List UInt8)}(h0:q=q'):FR q k=FR q' k:=by rw[h0]
def JF{bs:List UInt8}:FR (some bs) k=k (.im none (.sc (.string ⟨bs.toArray⟩))) []:=rfl
def Gk:n8 []=some []:=rfl
def DA{n:Int}{r:List AV}:n8 (.im t (.sc (.int .u8 n))::r)=(match n8 r with|some bs=>some (UInt8.ofNat n.toNat::bs)|none=>none):=by
 simp only[n8,Mf];cases n8 r<;>rfl
def Iq{T E:Nat}:gl P (⟨none,.zsb d T E⟩::l) st K=(d<3000000000∧kq (g7 P l K) st (some d) (.ps d) [(d,.sb T E ⟨#[]⟩)]):=rfl
attribute [go_sem] R8 JF Gk DA
attribute [go_sem ↓] Iq
variable {g:Nat}
def Kg{d:Option Nat}{x:X}:gl P (⟨none,.ZP d g x xs⟩::l) st K=I1 (st.ev x) P d g (xs.map st.ev) st (g7 P l K):=rfl
def JS:gl P (⟨none,.mkm d⟩::l) st K=(d<3000000000∧kq (g7 P l K) st (some d) (.mv d) [(d,.mp [])]):=rfl
attribute [go_sem ↓] Kg JS
variable {ok:Bool}{kk:Nat}
def IR{z:Value}{m x:X}:gl P (⟨none,.lku d kk ok z m x⟩::l) st K=BK (st.ev m) (st.ev x) st.unit kk ok z (kq (g7 P l K) st (some d)):=rfl
def I0{m:X}:gl P (⟨none,.mln d m⟩::l) st K=Bm (st.ev m) st.unit (kq (g7 P l K) st (some d)):=rfl
def It{m x:X}:gl P (⟨none,.ZR kk m x y⟩::l) st K=GA (st.ev m) (st.ev x) (st.ev y) kk st (g7 P l K):=rfl
attribute [go_sem ↓] IR I0 It
variable {m':AV}
@[congr] def aed{m:AV}{z:Value}(h1:m=m')(h2:x=x'):BK m x un kk ok z k=BK m' x' un kk ok z k:=by rw[h1,h2]
@[congr] def aeH{m:AV}(h1:m=m'):Bm m un k=Bm m' un k:=by rw[h1]
@[congr] def aei{m y:AV}{st:St}(h1:m=m')(h2:x=x')(h3:y=y')(h4:st=fS):GA m x y kk st f=GA m' x' y' kk fS f:=by rw[h1,h2,h3,h4]
def S1{id:Nat}{d:D}{z:Value}:BK (.mv id) (.im t d) un kk ok z k=Dg (un id) kk ok z (BE d) k:=rfl
def Qe{es:List (MK×Value)}{x:MK}{z:Value}:Dg (some (.mp es)) kk ok z (some x) k=((mb x=kk∧es.all (fun e=>mb e.1==kk)=true)∧k (Id ok z (qi es x)) []):=rfl
def WZ{z:Value}{q:Option Value}:Id true z q=.jS [.im none (.sc (q.getD z)),.im none (.sc (.bool q.isSome))]:=rfl
def Yz{z:Value}{q:Option Value}:Id false z q=.im none (.sc (q.getD z)):=rfl
def Ss{id:Nat}:Bm (.mv id) un k=C6 (un id) k:=rfl
def QO{es:List (MK×Value)}:C6 (some (.mp es)) k=k (.im none (.sc (.int .i64 es.length))) []:=rfl
def Qa{id:Nat}{t1 t2:Option Nat}{d:D}{v:Value}{st:St}:GA (.mv id) (.im t1 d) (.im t2 (.sc v)) kk st f=Jb (st.unit id) id kk (BE d) v st f:=rfl
@[congr] def aeA{id:Nat}{q q':Option MK}{v v':Value}{st:St}(h1:u=u')(h2:q=q')(h3:v=v')(h4:st=fS):Jb u id kk q v st f=Jb u' id kk q' v' fS f:=by rw[h1,h2,h3,h4]
@[congr] def aeM{z:Value}{q q':Option MK}(h1:u=u')(h2:q=q'):Dg u kk ok z q k=Dg u' kk ok z q' k:=by rw[h1,h2]
@[congr] def afp(h1:u=u'):C6 u k=C6 u' k:=by rw[h1]
def Uc{es:List (MK×Value)}{id:Nat}{x:MK}{v:Value}{st:St}:Jb (some (.mp es)) id kk (some x) v st f=((mb x=kk∧es.all (fun e=>mb e.1==kk)=true∧es.length<9223372036854775807)∧f (st.mc id (.mp (zm es x v)))):=rfl
def Y7{n:Int}:BE (.sc (.int .i64 n))=some (.i n):=rfl
def YC{b:ByteArray}:BE (.sc (.string b))=some (.s b):=rfl
def YU{a b:Int}:BE (.ag [.sc (.int .i64 a),.sc (.int .i64 b)])=some (.p a b):=rfl
def XV{n:Int}:mb (.i n)=0:=rfl
def Yo{b:ByteArray}:mb (.s b)=1:=rfl
def WN{a b:Int}:mb (.p a b)=2:=rfl
def Jq{x:X}:gl P (⟨none,.K6 d g x⟩::l) st K=Jx (st.ev x) P d g st (g7 P l K):=rfl
attribute [go_sem] S1 Qe WZ Yz Ss QO Qa Uc Y7 YC YU XV Yo WN
attribute [go_sem ↓] Jq
variable {args AR:List AV}
@[congr] def ae0{d:Option Nat}{st:St}{k:St→Prop}(h1:x=x')(h2:args=AR)(h3:st=fS):I1 x P d g args st k=I1 x' P d g AR fS k:=by rw[h1,h2,h3]
@[congr] def afd{st:St}{k:St→Prop}(h1:x=x')(h3:st=fS):Jx x P d g st k=Jx x' P d g fS k:=by rw[h1,h3]
@[congr] def agY{y:AV}(h0:x=x')(h1:y=y'):Vt mx x y k=Vt mx x' y' k:=by rw[h0,h1]
variable {m:Int}{a:IntKind}
def aaH{t':Option Nat}{b:IntKind}{n:Int}:Vt mx (.im t (.sc (.int a m))) (.im t' (.sc (.int b n))) k=k (.im none (.sc (.int a (if mx then(if n>m then n else m)else(if n<m then n else m))))) []:=rfl
def IF{d:Option Nat}{x:X}:gl P (⟨none,.Uy d sz x y⟩::l) st K=LK (st.ev x) (st.ev y) d sz st (g7 P l K):=rfl
def Jf{d:Option Nat}:gl P (⟨none,.ZO d g xs⟩::l) st K=D9 P d g (xs.map st.ev) st (g7 P l K):=rfl
def Fv{d:Option Nat}{x:X}:gl P (⟨none,.GC d x xs⟩::l) st K=C0 (st.ev x) P d (xs.map st.ev) st (g7 P l K):=rfl
@[congr] def aeu{d:Option Nat}{st:St}{k:St→Prop}(h2:args=AR)(h3:st=fS):D9 P d g args st k=D9 P d g AR fS k:=by rw[h2,h3]
@[congr] def adc{d:Option Nat}{st:St}{k:St→Prop}(h1:x=x')(h2:args=AR)(h3:st=fS):C0 x P d args st k=C0 x' P d AR fS k:=by rw[h1,h2,h3]
def Mg{n k:Nat}:lb [] n k=none:=rfl
attribute [go_sem] aaH Mg
attribute [go_sem ↓] IF Jf Fv
variable {r:List Nat}
def I4{n k:Nat}:lb (i::r) n k=if i=k then some n else lb r (n+1) k:=rfl
attribute [go_sem] I4
variable {k1 k2:List Nat}
def OO:oA k1 k2=fun v=>we k1 v||v9 k2 v:=rfl
def Ju:we [] v=false:=rfl
def Fb:we (i::r) v=(v.soft i||we r v):=rfl
def Kt:v9 [] v=false:=rfl
def FD:v9 (i::r) v=(v.refs i||v9 r v):=rfl
attribute [go_sem] OO Ju Fb Kt FD
variable {ids:List Nat}{us':List U}
def Mh:mM ids k1 k2 us' []=[]:=rfl
def Ij{u:U}{r:List (Nat×U)}:mM ids k1 k2 us' ((i,u)::r)=if(lb k2 0 i).isSome=true then mM ids k1 k2 us' r else(i,tj (lb k1 0 i) ids k1 k2 us' u)::mM ids k1 k2 us' r:=rfl
def Fc{u:U}:tj none ids k1 k2 us' u=u.kill (oA k1 k2):=rfl
def Gs{q:Nat}{u:U}:tj (some q) ids k1 k2 us' u=vd ids u (us'.getD q default):=rfl
@[congr] def ade{q q':Option Nat}{u:U}(h:q=q'):tj q ids k1 k2 us' u=tj q' ids k1 k2 us' u:=by rw[h]
attribute [go_sem] Mh Ij Fc Gs
variable {ow:Bool}{jc:Option Bool}
def TF{ow':Bool}{es':List D}:vd ids (.ar ow nn sz es) (.ar ow' jc gv es')=.ar ow' nn gv es':=rfl
def RW{g9:List AV}:vd ids (.bx sz items) (.bx gv g9)=.bx gv (qj ids g9):=rfl
def Oy:qj ids []=[]:=by simp[qj]
attribute [go_sem] TF RW Oy
variable {vs:List AV}
def Iz:qj ids (v::vs)=v.Ct ids::qj ids vs:=by simp[qj]
attribute [go_sem] Iz
variable {el:Nat}
def Wl{k:Nat}:AV.Ct ids (.pw k el j)=.pw (ids.getD (k-3000000000) 0) el j:=by simp[AV.Ct]
def XF{k:Nat}:AV.Ct ids (.pb k j)=.pb (ids.getD (k-3000000000) 0) j:=by simp[AV.Ct]
def Ww{f:Nat}:AV.Ct ids (.cl f vs)=.cl f (qj ids vs):=by simp[AV.Ct]
def Yc:AV.Ct ids (.sg vs)=.sg (qj ids vs):=by simp[AV.Ct]
def ZH{d:D}:AV.Ct ids (.im t d)=.im t d:=by simp[AV.Ct]
def IB{x:Nat}:(x::r).getD 0 d=x:=rfl
def Oi{x y:Nat}:(x::y::r).getD 1 d=y:=rfl
def J0{x:U}{r:List U}:(x::r).getD 0 default=x:=rfl
def Lm{x y:U}{r:List U}:(x::y::r).getD 1 default=y:=rfl
def NG{x y z:U}{r:List U}:(x::y::z::r).getD 2 default=z:=rfl
def LY:St.ZV ⟨n,env,us⟩ k1 k2 us'=⟨n,iy (oA k1 k2) env,mM (k1++k2) k1 k2 us' us⟩:=rfl
def Li{m:Nat}{r:List U}:JL m b r []=True:=by cases r<;>rfl
def KB{m:Nat}{u u':U}{r r':List U}:JL m b (u::r) (u'::r')=(qn m b u u'∧JL m b r r'):=rfl
def TI{m:Nat}{ow':Bool}{es':List D}:qn m b (.ar ow nn sz es) (.ar ow' jc gv es')=(jc=none∧gv=sz∧es'.length=es.length∧(b=true∨ow'=true∨fC es'=true)):=rfl
def S3{m:Nat}{g9:List AV}:qn m b (.bx sz items) (.bx gv g9)=(gv=sz∧g9.length=items.length∧tJ m g9=true):=rfl
def Nn{m:Nat}:tJ m []=true:=by simp[tJ]
def JU{m:Nat}:tJ m (v::vs)=(v.okW m&&tJ m vs):=by simp[tJ]
def XO{m:Nat}{d:D}:AV.okW m (.im none d)=d.flat:=by simp[AV.okW]
def Zd{m k:Nat}:AV.okW m (.pw k el j)=(decide (3000000000≤k)&&decide (k<3000000000+m)):=by simp[AV.okW]
def ZL{m k:Nat}:AV.okW m (.pb k j)=(decide (3000000000≤k)&&decide (k<3000000000+m)):=by simp[AV.okW]
def XU{m f:Nat}:AV.okW m (.cl f vs)=tJ m vs:=by simp[AV.okW]
def ZE{m:Nat}:AV.okW m (.sg vs)=tJ m vs:=by simp[AV.okW]
def Oo:qm ids []=true:=by simp[qm]
def Ii{r:List AV}:qm ids (v::r)=(v.pA ids&&qm ids r):=by simp[qm]
def ML:zn ids un []=true:=rfl
def H7:zn ids un (i::r)=(U.pA ids (un i)&&zn ids un r):=rfl
def QK:U.pA ids (some (.ar ow nn sz es))=true:=rfl
def Mm{d:D}:U.pA ids (some (.own d))=true:=rfl
def SG:U.pA ids (some (.bx sz items))=qm ids items:=rfl
def YQ{d:D}:(AV.im none d).pA ids=true:=by simp[AV.pA]
def RX{d:D}{t:Nat}:(AV.im (some t) d).pA ids=d.gJ:=by simp[AV.pA]
def XK{id:Nat}:(AV.pw id el j).pA ids=(lb ids 0 id).isSome:=by simp[AV.pA]
def XZ{id:Nat}:(AV.sm id off len).pA ids=(lb ids 0 id).isSome:=by simp[AV.pA]
def Xr{f:Nat}:(AV.cl f vs).pA ids=qm ids vs:=by simp[AV.pA]
def Xb:(AV.sg vs).pA ids=qm ids vs:=by simp[AV.pA]
def WO:(AV.tr i).pA ids=(lb ids 0 i).isSome:=by simp[AV.pA]
def Yf:(AV.pb i j).pA ids=true:=by simp[AV.pA]
def Zp{id:Nat}:(AV.cw id el j sz agg).pA ids=false:=by simp[AV.pA]
def WC{id:Nat}:(AV.vb id len).pA ids=false:=by simp[AV.pA]
def N2{x i:X}:gl P (⟨none,.ia d sz x i⟩::l) st K=D6 (st.ev x) (st.ev i) st.unit sz (kq (g7 P l K) st (some d)):=rfl
def OQ{x i:X}:gl P (⟨none,.ix d x i⟩::l) st K=U1 (st.ev x) (st.ev i) (kq (g7 P l K) st (some d)):=rfl
def Kb{x:X}:gl P (⟨none,.len d x⟩::l) st K=pO (st.ev x) st.unit (kq (g7 P l K) st (some d)):=rfl
def FK{x:X}:gl P (⟨none,.slen d x⟩::l) st K=vY (st.ev x) (kq (g7 P l K) st (some d)):=rfl
def Io{x:X}:gl P (⟨none,.sls d x lo hi⟩::l) st K=Bw (st.ev x) st.ev lo hi (kq (g7 P l K) st (some d)):=rfl
def EW{d:Option Nat}{f:Nat}{args:List X}:gl P (⟨none,.call d f args⟩::l) st K=nU P d f (args.map st.ev) st.unit (kq (g7 P l K) st d):=rfl
def Fp{d:Option Nat}{x:X}{args:List X}:gl P (⟨none,.calv d x args⟩::l) st K=qe (st.ev x) P d (args.map st.ev) st.unit (kq (g7 P l K) st d):=rfl
def Ih{x:X}:gl P (⟨none,.ext d x i⟩::l) st K=wE (st.ev x) i (kq (g7 P l K) st (some d)):=rfl
def Ni{ps:List (Nat×X)}:gl P (⟨none,.bs d sz z len ps⟩::l) st K=TQ (ps.map fun p=>(p.1,st.ev p.2)) st.unit d sz len (kq (g7 P l K) st (some d)):=rfl
def JI{ps:List (Nat×Nat×X)}:gl P (⟨none,.bld d z ps⟩::l) st K=xG (ps.map fun p=>(p.1,p.2.1,st.ev p.2.2)) st.unit z (kq (g7 P l K) st (some d)):=rfl
def JM{x:X}:gl P (⟨none,.app d sz bytes x y⟩::l) st K=oK st sz (st.ev y) (DM x d sz bytes (g7 P l K)):=rfl
def Kk{x:X}:gl P (⟨none,.Eg d g x y⟩::l) st K=Fn (st.ev x) (st.ev y) P d g st (g7 P l K):=rfl
@[congr] def ae9{y:AV}{st:St}{k:St→Prop}(h1:x=x')(h2:y=y')(h3:st=fS):Fn x y P d g st k=Fn x' y' P d g fS k:=by rw[h1,h2,h3]
@[congr] def afa{n:Int}{st:St}{k:St→Prop}(h1:x=x'):Fy x P d g n st k=Fy x' P d g n st k:=by rw[h1]
@[congr] def aeV{n:Int}{st:St}{k:St→Prop}(h1:u=u'):OJ u P d g i n st k=OJ u' P d g i n st k:=by rw[h1]
@[congr] def aeh{n:Int}{st:St}{k:St→Prop}(h1:u=u'):Me u P d g i el j sz agg n st k=Me u' P d g i el j sz agg n st k:=by rw[h1]
def Yi{n:Int}{st:St}{k:St→Prop}:Fn x (.im t (.sc (.int .i64 n))) P d g st k=Fy x P d g n st k:=rfl
def Sz{n:Int}{st:St}{k:St→Prop}:Fy (.tr i) P d g n st k=OJ (st.unit i) P d g i n st k:=rfl
def Qb{n:Int}{st:St}{k:St→Prop}:Fy (.cw i el j sz agg) P d g n st k=Me (st.unit i) P d g i el j sz agg n st k:=rfl
def Kh{x:X}{ys:List X}:gl P (⟨none,.cls d g x ys⟩::l) st K=Gb (st.ev x) P d g (ys.map st.ev) st (g7 P l K):=rfl
attribute [go_sem] Wl XF Ww Yc ZH IB Oi J0 Lm NG LY Li KB TI S3 Nn JU XO Zd ZL XU ZE Oo Ii ML H7 QK Mm SG YQ RX XK XZ Xr Xb WO Yf Zp WC Yi Sz Qb
attribute [go_sem ↓] N2 OQ Kb FK Io EW Fp Ih Ni JI JM Kk Kh
variable {ys:List AV}
@[congr] def aeQ{ys':List AV}{st:St}{k:St→Prop}(h1:x=x')(h2:ys=ys')(h3:st=fS):Gb x P d g ys st k=Gb x' P d g ys' fS k:=by rw[h1,h2,h3]
variable {usz:Nat}
def WB{st:St}{k:St→Prop}:Fk (some (.ar false nn usz es)) P d g i el j ys st k=False:=rfl
def Zs{st:St}:Ie (some (.ar true nn usz es)) P d g i el j ys st k=False:=rfl
@[congr] def afi{st:St}{k:St→Prop}(h1:u=u'):Fk u P d g i el j ys st k=Fk u' P d g i el j ys st k:=by rw[h1]
@[congr] def aeD{st:St}(h1:u=u'):Ie u P d g i el j ys st k=Ie u' P d g i el j ys st k:=by rw[h1]
def Qs{st:St}{k:St→Prop}:Gb (.pw i el j) P d g ys st k=(Ie (st.unit i) P d g i el j ys st (kq k (st.del i) (some d))∨Fk (st.unit i) P d g i el j ys st k):=rfl
def If{x:X}:gl P (⟨none,.VG d sz bytes x y⟩::l) st K=OA st sz (st.ev y) (FL x d sz bytes (g7 P l K)):=rfl
def I6{a x:X}:gl P (⟨none,.VH sz a x⟩::l) st K=uQ (st.ev a) (st.ev x) st sz (g7 P l K):=rfl
def Jn{d:Option Nat}:gl P (⟨none,.VI d g xs⟩::l) st K=NK P d g xs st (g7 P l K):=rfl
def Kz{ps:List (Nat×X)}:gl P (⟨none,.ZQ d sz len ps⟩::l) st K=JN (ps.map fun p=>(p.1,st.ev p.2)) st d sz len (g7 P l K):=rfl
attribute [go_sem] WB Zs Qs
attribute [go_sem ↓] If I6 Jn Kz
variable {ps:List (Nat×AV)}
@[congr] def aer{VJ:List (Nat×AV)}{st:St}(h:ps=VJ)(h':st=fS):JN ps st d sz len f=JN VJ fS d sz len f:=by rw[h,h']
def Tz{st:St}:JN ps st d sz len f=((ps.map (·.1)=List.range len∧0<sz∧len*sz≤16777216)∧qo st (ps.map (·.2)) (NX d sz len f)):=rfl
attribute [go_sem] Tz
variable {ds':List D}
@[congr] def ae3{st:St}(h:ds=ds')(h':st=fS):NX d sz len f ds st=NX d sz len f ds' fS:=by rw[h,h']
def Tp:NX d sz len f ds fS=(((∀e∈ds,e.size=sz)∧fS.fresh [(d,.own .jk)]=true)∧f ((fS.iQ [(d,.ar false (some false) sz ds)]).set d (.sm d 0 len))):=rfl
@[congr] def ahg{st:St}{k:List D→St→Prop}(h:st=fS)(h':v=v'):OA st sz v k=OA fS sz v' k:=by rw[h,h']
@[congr] def aho{st:St}{k:List D→St→Prop}(h:u=u'):shV u i len sz st k=shV u' i len sz st k:=by rw[h]
@[congr] def aet{st:St}{k:List D→St→Prop}(h:u=u'):Bl u off len sz st k=Bl u' off len sz st k:=by rw[h]
@[congr] def aeR{x:X}{st:St}(h2:ds=ds')(h3:st=fS):FL x d sz bytes f ds st=FL x d sz bytes f ds' fS:=by rw[h2,h3]
@[congr] def afk{st:St}(h1:x=x')(h2:ds=ds')(h3:st=fS):IQ x d sz bytes f ds st=IQ x' d sz bytes f ds' fS:=by rw[h1,h2,h3]
@[congr] def afy{id:Nat}{st:St}(h1:u=u')(h2:ds=ds')(h3:st=fS):Jk u id off len ds st d sz bytes f=Jk u' id off len ds' fS d sz bytes f:=by rw[h1,h2,h3]
@[congr] def ae5{a:AV}{st:St}(h0:a=a')(h1:x=x'):uQ a x st sz f=uQ a' x' st sz f:=by rw[h0,h1]
@[congr] def aeq{d:Option Nat}{st:St}{k:St→Prop}(h:st=fS):NK P d g xs st k=NK P d g xs fS k:=by rw[h]
def Wh{st:St}{k:List D→St→Prop}:OA st sz (.vb i len) k=shV (st.unit i) i len sz st k:=rfl
def WD{st:St}{k:List D→St→Prop}:OA st sz (.im none (.ls nn gv ds)) k=(gv=sz∧k ds st):=rfl
def Ye{st:St}{k:List D→St→Prop}:OA st sz (.sm i off len) k=Bl (st.unit i) off len sz st k:=rfl
def Xq{st:St}{k:List D→St→Prop}:OA st sz (.ss i off len) k=Bl (st.unit i) off len sz st k:=rfl
def Yt{w6:Nat}{st:St}{k:List D→St→Prop}:shV (some (.bx w6 items)) i len sz st k=((w6=sz∧len=items.length)∧qo (st.del i) items k):=rfl
def Uq{st:St}{k:List D→St→Prop}:Bl (some (.ar false nn usz es)) off len sz st k=(usz=sz∧k ((es.drop off).take len) st):=rfl
def TS{x:X}:FL x d sz bytes f ds fS=IQ (fS.ev x) d sz bytes f ds fS:=rfl
def Us{id:Nat}:IQ (.sm id off len) d sz bytes f ds fS=Jk (fS.unit id) id off len ds fS d sz bytes f:=rfl
def Q8{id:Nat}:Jk (some (.ar ow nn usz es)) id off len ds fS d sz bytes f=
  ((usz = sz ∧ 0 < sz ∧ off = 0 ∧ yk len es ∧ (ow = false ∨ rT len es = []) ∧ (len + ds.length) * bytes ≤ 140737488355328 ∧ len + ds.length ≤ gp ∧ (∀ e ∈ ds, e.size = sz)) ∧
    f ((fS.upr id (.ar false (gC nn ds) sz (rT len es++ds))).set d (.sm id 0 (len+ds.length)))):=rfl
def Sv{id:Nat}{st:St}:uQ (.pw id el j) (.sm i off len) st sz f=Ru (st.unit id) id el j sz (.sm i off len) st f:=rfl
def R9{id:Nat}{st:St}:uQ (.pb id j) (.sm i off len) st sz f=R7 (st.unit id) id j sz (.sm i off len) st f:=rfl
def Tc{a:AV}{e:D}{st:St}:uQ a (.im t e) st sz f=CZ a (.im t e) st sz f:=rfl
def Tt{a:AV}{st:St}:uQ a (.tr i) st sz f=CZ a (.tr i) st sz f:=rfl
def Ur{a:AV}{st:St}:uQ a (.sg vs) st sz f=CZ a (.sg vs) st sz f:=rfl
attribute [go_sem] Tp Wh WD Ye Xq Yt Uq TS Us Q8 Sv R9 Tc Tt Ur
variable {cg:Bool}{cz:Nat}
def QL{a:AV}{st:St}:uQ a (.cw i el j cz cg) st sz f=CZ a (.cw i el j cz cg) st sz f:=rfl
def Si{a:AV}{st:St}:uQ a (.pw i el j) st sz f=CZ a (.pw i el j) st sz f:=rfl
def Wk:k9 (.sm i off len) usz j sz false k=if j=0∧sz=usz then k (.sm i off len) []else False:=by simp[k9,gj,AV.gY,K5]
def R5{k:AV→Prop}:iG (.sm i off len) x usz j sz k=if j=0∧sz=usz then k x else False:=rfl
def LA{k:AV→Prop}:iG .any x usz j sz k=if j=0∧sz=usz then k x else False:=rfl
def Iw:gC (some false) ds=some false:=by cases ds<;>rfl
attribute [go_sem] QL Si Wk R5 LA Iw
attribute [go_sem] lv
@[congr] def agz{st:St}{k:D→St→Prop}(h:st=fS)(h':v=v'):sj st v k=sj fS v' k:=by rw[h,h']
@[congr] def ae8{st:St}{v v':List AV}{k:List D→St→Prop}(h:st=fS)(h':v=v'):qo st v k=qo fS v' k:=by rw[h,h']
@[congr] def aef{st:St}{k:D→St→Prop}(h:u=u'):Jd u i off len st k=Jd u' i off len st k:=by rw[h]
variable {d':D}
@[congr] def agJ{k:D→St→Prop}{o o':Bool}{d:D}{st:St}(h1:o=o')(h2:d=d')(h3:st=fS):PT k o d st=PT k o' d' fS:=by rw[h1,h2,h3]
@[congr] def ag9{k:D→St→Prop}{d d':List D}{st:St}(h2:d=d')(h3:st=fS):tkG k d st=tkG k d' fS:=by rw[h2,h3]
@[congr] def agA{d:D}{k:List D→St→Prop}{st:St}(h1:d=d')(h2:ds=ds')(h3:st=fS):Ym d k ds st=Ym d' k ds' fS:=by rw[h1,h2,h3]
variable {Eh:List AV}
@[congr] def agx{k:List D→St→Prop}{d:D}{st:St}(h1:vs=Eh)(h2:d=d')(h3:st=fS):tkC vs k d st=tkC Eh k d' fS:=by rw[h1,h2,h3]
def Wc{st:St}{k:D→St→Prop}:sj st (.sm i off len) k=Jd (st.unit i) i off len st k:=by simp only[sj]
def Wm{st:St}{k:D→St→Prop}:sj st (.sg vs) k=qo st vs (tkG k):=by simp only[sj]
def YT{st:St}{d:D}{k:D→St→Prop}:sj st (.im t d) k=gH st (.im t d) (PT k):=by simp only[sj]
def W9{st:St}{k:D→St→Prop}:sj st (.tr i) k=gH st (.tr i) (PT k):=by simp only[sj]
def XP{st:St}{k:D→St→Prop}:sj st (.cw i el j sz agg) k=gH st (.cw i el j sz agg) (PT k):=by simp only[sj]
def L3{st:St}{k:List D→St→Prop}:qo st [] k=k [] st:=by simp only[qo]
def I7{st:St}{k:List D→St→Prop}:qo st (v::vs) k=sj st v (tkC vs k):=by simp only[qo];rfl
def RE{st:St}{k:D→St→Prop}:Jd (some (.ar ow nn sz es)) i off len st k=((off=0∧len=es.length)∧k (.ls nn sz es) (st.del i)):=rfl
def Yp{k:D→St→Prop}{o:Bool}{d:D}{st:St}:PT k o d st=k d st:=rfl
def XE{k:D→St→Prop}{st:St}:tkG k ds st=k (.ag (ds.map D.cells).flatten) st:=rfl
def WR{d:D}{k:List D→St→Prop}{st:St}:Ym d k ds st=k (d::ds) st:=rfl
def ZK{k:List D→St→Prop}{d:D}{st:St}:tkC vs k d st=qo st vs (Ym d k):=rfl
def Od{a x:X}:gl P (⟨none,.st sz a x⟩::l) st K=CZ (st.ev a) (st.ev x) st sz (g7 P l K):=rfl
@[congr] def abs{c:AV}{a:AV}{b b':AV}(h0:c=c')(h1:a=a')(h2:b=b'):pr c a b k=pr c' a' b' k:=by rw[h0,h1,h2]
@[congr] def afb(h0:x=x'):uR x un d sz k=uR x' un d sz k:=by rw[h0]
@[congr] def agy{id:Nat}(h0:u=u'):Vw u id el j agg sz k=Vw u' id el j agg sz k:=by rw[h0]
@[congr] def agW{a:AV}(h0:a=a'):zX a un agg sz k=zX a' un agg sz k:=by rw[h0]
@[congr] def aeg(h0:x=x'):qA x k=qA x' k:=by rw[h0]
@[congr] def afg{op:BinOp}{y:AV}(h0:x=x')(h1:y=y'):CF op x y k=CF op x' y' k:=by rw[h0,h1]
@[congr] def aen{y:AV}(h0:x=x')(h1:y=y'):C4 neg x y k=C4 neg x' y' k:=by rw[h0,h1]
@[congr] def adh{y:AV}(h0:x=x')(h1:y=y'):vV neg x y k=vV neg x' y' k:=by rw[h0,h1]
@[congr] def afe{y:AV}{n:Nat}(h0:x=x')(h1:y=y'):Dw neg x y n k=Dw neg x' y' n k:=by rw[h0,h1]
def W7{u:Option Nat}{p q:Bool}:C4 neg (.im t (.sc (.bool p))) (.im u (.sc (.bool q))) k=k (.im none (.sc (.bool (if neg then !(p==q)else p==q)))) []:=rfl
def Tw{u:Option Nat}{p:Bool}{z1 z2:Nat}:vV neg (.im t (.ls (some p) z1 ds)) (.im u (.ls (some true) z2 [])) k=k (.im none (.sc (.bool (if neg then !p else p)))) []:=rfl
def Xu{u:Option Nat}{n:Nat}:Dw neg (.im t (.ag ds)) (.im u (.ag es)) n k=(ds.length=n∧tv ds es fun r=>k (.im none (.sc (.bool (if neg then !r else r)))) []):=rfl
def Oh{f:Bool→Prop}:tv [] [] f=f true:=rfl
def Kn{b:IntKind}{n:Int}{f:Bool→Prop}:tv (.sc (.int a m)::ds) (.sc (.int b n)::es) f=(a=b∧tv ds es fun r=>f ((m==n)&&r)):=rfl
@[congr] def ahd{op:UnOp}(h0:x=x'):Q1 op x k=Q1 op x' k:=by rw[h0]
@[congr] def ae4{kd:IntKind}(h0:x=x'):Dt kd x k=Dt kd x' k:=by rw[h0]
attribute [go_sem] Wc Wm YT W9 XP L3 I7 RE Yp XE WR ZK W7 Tw Xu Oh Kn
attribute [go_sem ↓] Od
variable {l':AV}
@[congr] def agE{l:AV}{c:AV}(h0:l=l')(h1:c=c'):VC l c d sz bytes z k=VC l' c' d sz bytes z k:=by rw[h0,h1]
variable {h h':AV}{s:ByteArray}
@[congr] def afc{l:AV}(h0:l=l')(h1:h=h'):E0 s l h k=E0 s l' h' k:=by rw[h0,h1]
@[congr] def aeT{l:AV}(h0:l=l')(h1:h=h'):Gq t nn sz ds l h k=Gq t nn sz ds l' h' k:=by rw[h0,h1]
variable {ev:X→AV}
@[congr] def afC(h0:x=x'):yp x ev un sz lo hi k=yp x' ev un sz lo hi k:=by rw[h0]
@[congr] def ag0{id:Nat}(h0:u=u'):OC u id el j off k=OC u' id el j off k:=by rw[h0]
@[congr] def afP(h0:x=x'):yY x un off k=yY x' un off k:=by rw[h0]
@[congr] def ag5(h0:u=u'):R4 u i off sz agg k=R4 u' i off sz agg k:=by rw[h0]
@[congr] def agG(h0:x=x'):Jo x un off sz agg k=Jo x' un off sz agg k:=by rw[h0]
@[congr] def agB{q q':Option (Option Nat×D)}{n:Int}(h0:q=q'):K4 q sz n k=K4 q' sz n k:=by rw[h0]
@[congr] def ahc{id:Nat}{p:Nat}(h0:u=u'):Gd u id sz p k=Gd u' id sz p k:=by rw[h0]
@[congr] def ahe{i i':AV}(h0:x=x')(h1:i=i'):D6 x i un sz k=D6 x' i' un sz k:=by rw[h0,h1]
@[congr] def agi{i i':AV}(h0:x=x')(h1:i=i'):U1 x i k=U1 x' i' k:=by rw[h0,h1]
@[congr] def aff{q q':Option (Option Nat×D)}(h0:q=q'):wJ q k=wJ q' k:=by rw[h0]
@[congr] def aeF(h0:x=x'):pO x un k=pO x' un k:=by rw[h0]
variable {Q:Program}
@[congr] def abH{d:Option Nat}(h0:x=x'):qe x Q d args un k=qe x' Q d args un k:=by rw[h0]
@[congr] def aew(h0:x=x'):wE x i k=wE x' i k:=by rw[h0]
@[congr] def afN{VJ:List (Nat×AV)}(h0:ps=VJ):TQ ps un d sz len k=TQ VJ un d sz len k:=by rw[h0]
@[congr] def afw{ps VJ:List (Nat×Nat×AV)}(h0:ps=VJ):xG ps un z k=xG VJ un z k:=by rw[h0]
@[congr] def aaF{st:St}{k:KT}(h0:u=u'):sv u i st k=sv u' i st k:=by rw[h0]
@[congr] def aaz{st:St}{k:KT}(h0:u=u'):uM u i off len st k=uM u' i off len st k:=by rw[h0]
@[congr] def abU{st:St}{k:KL}(h0:u=u'):yz u i len sz st k=yz u' i len sz st k:=by rw[h0]
@[congr] def acp{q q':Option D}{st:St}{k:KL}(h0:q=q'):se q sz st k=se q' sz st k:=by rw[h0]
variable {own:Bool}
@[congr] def agu{id:Nat}{d:D}(h0:u=u'):stU u id el j sz own d fS f=stU u' id el j sz own d fS f:=by rw[h0]
variable {ul:Bool}{o:Nat}
@[congr] def ael{id b:Nat}{d:D}{st:St}(h0:u=u')(h1:own=ul)(h2:d=d')(h3:st=fS):O6 u id b o sz own d st f=O6 u' id b o sz ul d' fS f:=by rw[h0,h1,h2,h3]
@[congr] def ag8{id b:Nat}{d:D}{st:St}(h1:own=ul)(h2:d=d')(h3:st=fS):Ya id b o sz f own d st=Ya id b o sz f ul d' fS:=by rw[h1,h2,h3]
def WK{id b:Nat}{d:D}{st:St}:Ya id b o sz f own d st=O6 (st.unit id) id b o sz own d st f:=rfl
@[congr] def agS{a:AV}{st:St}(h0:a=a')(h1:x=x'):CZ a x st sz f=CZ a' x' st sz f:=by rw[h0,h1]
@[congr] def afm{id:Nat}(h0:u=u'):Jl u id off len own ds fS d sz bytes f=Jl u' id off len own ds fS d sz bytes f:=by rw[h0]
@[congr] def ae6(h0:x=x'):yr x own ds fS d sz bytes f=yr x' own ds fS d sz bytes f:=by rw[h0]
def Q4{y:AV}:pr (.im t (.sc (.bool b))) x y k=((b=true→k x [])∧(b=false→k y [])):=rfl
def S4{e:D}:uR (.im none e) un d sz k=((0<sz∧e.size=sz)∧k (.pw d 0 0) [(d,.ar false (some false) sz [e])]):=rfl
def X7{id:Nat}:Vw (some (.ar ow nn usz es)) id el j agg sz k=((j+sz≤usz∧(agg=true→(D.at es el).fK=true))∧k (Mo ow id el j sz agg (D.sub (D.at es el) j sz agg)) []):=rfl
def QF:uR (.sg vs) un d sz k=((d<3000000000∧0<sz∧iP un sz (.sg (jx vs))=true)∧k (.pb d 0) [(d,.bx sz [.sg (jx vs)])]):=rfl
def Qn{f:Nat}:uR (.cl f vs) un d sz k=((d<3000000000∧0<sz∧iP un sz (.cl f vs)=true)∧k (.pb d 0) [(d,.bx sz [.cl f vs])]):=rfl
def S2:uR (.pw i el j) un d sz k=((d<3000000000∧0<sz∧iP un sz (.pw i el j)=true)∧k (.pb d 0) [(d,.bx sz [.pw i el j])]):=rfl
def Tj:uR (.tr i) un d sz k=((d<3000000000∧0<sz∧iP un sz (.tr i)=true)∧k (.pb d 0) [(d,.bx sz [.tr i])]):=rfl
def WA{id:Nat}:zX (.pb id j) un agg sz k=Vu (un id) j sz agg k:=rfl
@[congr] def ago(h:u=u'):Vu u j sz agg k=Vu u' j sz agg k:=by rw[h]
def Yr:Vu (some (.bx usz [x])) j sz agg k=((0<usz∧(agg=false→sz=1))∧k9 x usz j sz agg k):=rfl
def W5:k9 (.sg vs) usz j sz true k=if j=0∧sz=usz then k (.sg vs) []else K5 (.sg vs) j sz true k:=by simp[k9,gj]
def QB:k9 (.sg vs) usz j sz false k=K5 (.sg vs) j sz false k:=by simp[k9,gj,AV.gY]
def Wx{f:Nat}:k9 (.cl f vs) usz j sz false k=if j=0∧sz=usz then k (.cl f vs) []else False:=by simp[k9,gj,AV.gY,K5]
def Xm{j0:Nat}:k9 (.pw i el j0) usz j sz false k=if j=0∧sz=usz then k (.pw i el j0) []else False:=by simp[k9,gj,AV.gY,K5]
def Sd:K5 (.sg vs) j sz true k=((vs.all AV.gY=true∧j+sz≤vs.length)∧k (I8 ((vs.drop j).take sz)) []):=by simp[K5]
def TW:K5 (.sg vs) j sz false k=((vs.all AV.gY=true∧j+sz≤vs.length)∧k (vs.getD j .any) []):=by simp[K5]
def Td{id:Nat}:qA (.pb id j) k=k (.pb id j) []:=rfl
def WV{id:Nat}:yY (.pb id j) un off k=k (.pb id (j+off)) []:=rfl
def Wb{id:Nat}{st:St}:CZ (.ps id) x st sz f=ZA (st.unit id) id sz x st f:=rfl
@[congr] def agI{id:Nat}{st:St}(h0:u=u')(h1:x=x')(h2:st=fS):ZA u id sz x st f=ZA u' id sz x' fS f:=by rw[h0,h1,h2]
def Yn{T E:Nat}{id:Nat}{st:St}:ZA (some (.sb T E s)) id sz x st f=((sz=2∧A7 x=true)∧f (st.mc id (.sb T E ⟨#[]⟩))):=rfl
def Jc{t':Option Nat}{q:Nat}:A7 (.sg [.im t (.sc (.pointer none)),.im t' (.ls (some true) q [])])=true:=rfl
def YY{b:Nat}{st:St}:CZ (.im t (.sc (.pointer (some ⟨b,o,none⟩)))) x st sz f=∃id,it 12 st x (Ya id b o sz f):=rfl
def ZJ{id:Nat}{st:St}:CZ (.pb id j) x st sz f=R7 (st.unit id) id j sz x st f:=rfl
@[congr] def ahr{id:Nat}{st:St}(h:u=u'):R7 u id j sz x st f=R7 u' id j sz x st f:=by rw[h]
def YH{y:AV}{id:Nat}{st:St}:R7 (some (.bx usz [y])) id j sz x st f=((0<usz∧0<sz∧iP st.unit sz x=true∧oy x=true∧x.refs id=false∧y.refs id=false)∧iG y x usz j sz fun z=>f (st.mc id (.bx usz [z]))):=rfl
def Qw{k:AV→Prop}:iG (.sg vs) x usz j sz k=if j=0∧sz=usz then k x else((vs.all AV.gY=true∧j<vs.length∧sz=1∧x.gY=true)∧k (.sg (vs.set j x))):=rfl
@[congr] def afG{id:Nat}{st:St}(h:u=u'):Ru u id el j sz x st f=Ru u' id el j sz x st f:=by rw[h]
def WL{d:D}{id:Nat}{st:St}:Ru (some (.ar ow nn usz [d])) id el j sz x st f=(((nn=none∨id<3000000000)∧0<sz∧el=0∧j=0∧sz=usz∧d.gJ=true∧iP st.unit sz (jY x)=true∧oy (jY x)=true∧(jY x).refs id=false)∧f (st.cvt id (.bx sz [jY x]))):=rfl
def Sg{id:Nat}{u:U}:St.cvt ⟨n,env,us⟩ id u=⟨n,Du id env,(id,u)::fQ id (AV.refs id) us⟩:=rfl
attribute [go_sem] WK Q4 S4 X7 QF Qn S2 Tj WA Yr W5 QB Wx Xm Sd TW Td WV Wb Yn Jc YY ZJ YH Qw WL Sg
attribute [go_sem] Du
def ST{id:Nat}:uI id (.pw i el j)=if i=id then(if el=0 then .pb id j else .any)else .pw i el j:=rfl
def S6{id:Nat}{d:D}:uI id (.im t d)=if(t==some id)=true then .any else .im t d:=rfl
def QA{id:Nat}:uI id (.tr i)=if(i==id)=true then .any else .tr i:=rfl
def QW{id:Nat}:uI id (.cw i el j sz agg)=if(i==id)=true then .any else .cw i el j sz agg:=rfl
def Ql{id:Nat}:uI id (.sm i off len)=if(i==id)=true then .any else .sm i off len:=rfl
def RF{id:Nat}:uI id (.vb i len)=if(i==id)=true then .any else .vb i len:=rfl
def Rp{id:Nat}:uI id (.pb i j)=if(i==id)=true then .any else .pb i j:=rfl
def Lz{id:Nat}:uI id .any=.any:=rfl
def T3{id f:Nat}:uI id (.cl f vs)=if AV.kI id vs=true then .any else .cl f vs:=rfl
def Rv{id:Nat}:uI id (.sg vs)=if AV.kI id vs=true then .any else .sg vs:=rfl
def OG{id:Nat}:uI id (.jS vs)=if AV.kI id vs=true then .any else .jS vs:=rfl
attribute [go_sem] ST S6 QA QW Ql RF Rp Lz T3 Rv OG
attribute [go_sem] AV.isRef AV.isRef.BY AV.gY jx jY oy
def Xt{d:D}:zX (.im t (.pt d j)) un agg sz k=((j+sz≤d.size∧(agg=true→d.fK=true))∧k (.im t (D.sub d j sz agg)) []):=rfl
def Yy{b:Nat}{d:D}:zX (.im t (.lc b o (.pt d j))) un agg sz k=((j+sz≤d.size∧(agg=true→d.fK=true))∧k (.im t (D.sub d j sz agg)) []):=rfl
def XB{id:Nat}:zX (.pw id el j) un agg sz k=Vw (un id) id el j agg sz k:=rfl
def T7{d:D}:qA (.im t (.pt d j)) k=k (.im t (.pt d j)) []:=rfl
def Ty{b:Nat}{d:D}:qA (.im t (.lc b o (.pt d j))) k=k (.im t (.lc b o (.pt d j))) []:=rfl
def R0{p:Addr}:qA (.im t (.sc (.pointer (some p)))) k=k (.im t (.sc (.pointer (some p)))) []:=rfl
def SI{id:Nat}:qA (.pw id el j) k=k (.pw id el j) []:=rfl
def RA:Q1 .not (.im t (.sc (.bool b))) k=k (.im none (.sc (.bool (!b)))) []:=rfl
def TJ:Q1 .neg (.im t (.sc (.int a m))) k=k (.im none (.sc (.int a (a.wrap (-m))))) []:=rfl
def Xd{b:IntKind}:Dt b (.im t (.sc (.int a m))) k=k (.im none (.sc (.int b (b.wrap m)))) []:=rfl
def abn{u:Option Nat}{b:IntKind}{q:Int}:VC (.im t (.sc (.int a m))) (.im u (.sc (.int b q))) d sz bytes z k=
  ((0≤m∧m≤q∧bytes*q≤140737488355328∧q≤140737488355328∧0<sz∧z.size=sz∧z.gJ=true)∧k (.sm d 0 m.toNat) [(d,.ar true (some false) sz (List.replicate m.toNat z))]):=rfl
def Yq{u:Option Nat}{b:IntKind}{l h:Int}:E0 s (.im t (.sc (.int a l))) (.im u (.sc (.int b h))) k=((0≤l∧l≤h∧h≤s.size)∧k (.im none (.sc (.string (s.extract l.toNat h.toNat)))) []):=rfl
def Ze{t0:Option Nat}{u:Option Nat}{b:IntKind}{l h:Int}:Gq t0 nn sz ds (.im t (.sc (.int a l))) (.im u (.sc (.int b h))) k=((0≤l∧l≤h∧h≤ds.length)∧k (.im t0 (.ls nn sz ((ds.take h.toNat).drop l.toNat))) []):=rfl
def TY:yp (.im t (.ls nn gv ds)) ev un sz lo hi k=
  (sz=gv∧Gq t nn sz ds ((lo.map ev).getD (.im none (.sc (.int .i64 0)))) ((hi.map ev).getD (.im none (.sc (.int .i64 ds.length)))) k):=rfl
@[congr] def aeX(h0:x=x'):Bw x ev lo hi k=Bw x' ev lo hi k:=by rw[h0]
@[congr] def ab6(h0:x=x'):vY x k=vY x' k:=by rw[h0]
def Wz:Bw (.im t (.sc (.string s))) ev lo hi k=
  E0 s ((lo.map ev).getD (.im none (.sc (.int .i64 0)))) ((hi.map ev).getD (.im none (.sc (.int .i64 s.size)))) k:=rfl
def R3:vY (.im t (.sc (.string s))) k=k (.im none (.sc (.int .i64 s.size))) []:=rfl
def YA{id:Nat}:OC (some (.ar ow nn usz es)) id el j off k=(j+off<usz∧k (.pw id el (j+off)) []):=rfl
def WH{d:D}:yY (.im t (.pt d j)) un off k=(j+off<d.size∧k (.im t (.pt d (j+off))) []):=rfl
def Zo{b:Nat}{d:D}:yY (.im t (.lc b o (.pt d j))) un off k=(j+off<d.size∧k (.im t (.lc b (o+off) (.pt d (j+off)))) []):=rfl
def Yv{id:Nat}:yY (.pw id el j) un off k=OC (un id) id el j off k:=rfl
def Ti{d:D}:R4 (some (.own d)) i off sz agg k=((d.fK=true∧off+sz≤d.size)∧k (.im (some i) (D.sub d off sz agg)) []):=rfl
def W8{d:D}:Jo (.im t d) un off sz agg k=((d.fK=true∧off+sz≤d.size)∧k (.im t (D.sub d off sz agg)) []):=rfl
def XA:Jo (.tr i) un off sz agg k=R4 (un i) i off sz agg k:=rfl
def XJ:K4 (some (t,.ls nn gv ds)) sz m k=((sz=gv∧0<sz∧0≤m∧m<ds.length)∧k (.im t (.pt (D.at ds m.toNat) 0)) []):=rfl
def Xa{id p:Nat}:Gd (some (.ar ow nn usz es)) id sz p k=((sz=usz∧0<sz)∧k (.pw id p 0) []):=rfl
def ZF{id:Nat}:D6 (.sm id off len) (.im t (.sc (.int a m))) un sz k=((0≤m∧m<len)∧Gd (un id) id sz (off+m.toNat) k):=rfl
def Wn{b:Nat}:K4 (some (t,.lc b o (.ls nn gv ds))) sz m k=((sz=gv∧0<sz∧0≤m∧m<ds.length)∧k (.im t (.lc b (o+m.toNat*sz) (.pt (D.at ds m.toNat) 0))) []):=rfl
def Wj{u:Option Nat}{d:D}:D6 (.im u d) (.im t (.sc (.int a m))) un sz k=K4 (some (u,d)) sz m k:=rfl
def YV:D6 (.tr i) (.im t (.sc (.int a m))) un sz k=K4 (AV.den un (.tr i)) sz m k:=rfl
def YX:D6 (.cw i el j 1 false) (.im t (.sc (.int a m))) un sz k=Qj (un i) i el j sz m k:=rfl
def XI{id:Nat}:D6 (.ss id off len) (.im t (.sc (.int a m))) un sz k=((0≤m∧m<len)∧Gd (un id) id sz (off+m.toNat) k):=rfl
attribute [go_sem] Xt Yy XB T7 Ty R0 SI RA TJ Xd abn Yq Ze TY Wz R3 YA WH Zo Yv Ti W8 XA XJ Xa ZF Wn Wj YV YX XI
variable {gQ:Nat}
def XD:D6 (.qs i el j gQ off len) (.im t (.sc (.int a m))) un sz k=K4 (AV.den un (.qs i el j gQ off len)) sz m k:=rfl
@[congr] def ag6{id:Nat}{n:Int}(h0:u=u'):Qj u id el j sz n k=Qj u' id el j sz n k:=by rw[h0]
def YZ{id:Nat}{n:Int}:Qj (some (.ar true nn usz es)) id el j sz n k=Vh id el j sz n (D.sub (D.at es el) j 1 false) k:=rfl
@[congr] def ahq{id:Nat}{n:Int}{d:D}(h0:d=d'):Vh id el j sz n d k=Vh id el j sz n d' k:=by rw[h0]
def Yd{id:Nat}{n:Int}:Vh id el j sz n (.ls nn gv ds) k=((sz=gv∧0<sz∧0≤n∧n<ds.length)∧k (.pq id el j sz n.toNat 0) []):=rfl
attribute [go_sem] XD YZ Yd
variable {ic j':Nat}
def Zk{id:Nat}:yY (.pq id el j gQ ic j') un off k=(j'+off<gQ∧k (.pq id el j gQ ic (j'+off)) []):=rfl
def TP{id:Nat}:qA (.pq id el j gQ ic j') k=k (.pq id el j gQ ic j') []:=rfl
def XG{id:Nat}:zX (.pq id el j gQ ic j') un agg sz k=Vc (un id) id el j gQ ic j' agg sz k:=rfl
@[congr] def agk{id:Nat}(h0:u=u'):Vc u id el j gQ ic j' agg sz k=Vc u' id el j gQ ic j' agg sz k:=by rw[h0]
def Za{id:Nat}:Vc (some (.ar true nn usz es)) id el j gQ ic j' agg sz k=Fj gQ ic j' sz agg id (D.sub (D.at es el) j 1 false) k:=rfl
@[congr] def aeo{id:Nat}{d:D}(h0:d=d'):Fj gQ ic j' sz agg id d k=Fj gQ ic j' sz agg id d' k:=by rw[h0]
def Uo{id:Nat}:Fj gQ ic j' sz agg id (.ls nn gv ds) k=
  ((gv=gQ∧ic<ds.length∧j'<gQ∧j'+sz≤gQ∧(agg=true→(D.at ds ic).fK=true))∧k (.im (qz agg id (D.sub (D.at ds ic) j' sz agg)) (D.sub (D.at ds ic) j' sz agg)) []):=rfl
def TN{id:Nat}{d:D}:qz true id d=some id:=by simp[qz]
def Mq{id:Nat}{v:Value}:qz false id (.sc v)=none:=by simp[qz,D.vF]
def OE{id:Nat}:qz false id (.ls nn sz ds)=some id:=by simp[qz,D.vF]
def M4{id:Nat}:qz false id (.ag ds)=some id:=by simp[qz,D.vF]
@[congr] def aee{l:AV}{n:Nat}{k:Nat→Nat→Prop}(h0:l=l')(h1:h=h'):wK l h n k=wK l' h' n k:=by rw[h0,h1]
def Yk{u:Option Nat}{b:IntKind}{l h:Int}{n:Nat}{k:Nat→Nat→Prop}:wK (.im t (.sc (.int a l))) (.im u (.sc (.int b h))) n k=((0≤l∧l≤h∧h≤n)∧k l.toNat h.toNat):=rfl
def QY{id:Nat}:yp (.sm id off len) ev un sz lo hi k=
  BW (un id) id off len sz lo.isSome ((lo.map ev).getD (.im none (.sc (.int .i64 0)))) ((hi.map ev).getD (.im none (.sc (.int .i64 len)))) k:=rfl
@[congr] def afv{id:Nat}{lo:Bool}{l:AV}(h0:u=u')(h1:l=l')(h2:h=h'):BW u id off len sz lo l h k=BW u' id off len sz lo l' h' k:=by rw[h0,h1,h2]
def Wt{id:Nat}{l:AV}:BW (some (.ar ow nn usz es)) id off len sz true l h k=(usz=sz∧wK l h len fun l h=>k (.ss id (off+l) (h-l)) []):=rfl
def Zh{id:Nat}{l:AV}:BW (some (.ar ow nn usz es)) id off len sz false l h k=(usz=sz∧wK l h len fun _ h=>k (.sm id off h) []):=rfl
def Uv{id:Nat}:yp (.cw id el j 1 false) ev un sz lo hi k=DC (un id) id el j sz ((lo.map ev).getD (.im none (.sc (.int .i64 0)))) (hi.map ev) k:=rfl
@[congr] def aeK{id:Nat}{l:AV}{h h':Option AV}(h0:u=u')(h1:l=l')(h2:h=h'):DC u id el j sz l h k=DC u' id el j sz l' h' k:=by rw[h0,h1,h2]
def Tk{id:Nat}{l:AV}{h:Option AV}:DC (some (.ar true nn usz es)) id el j sz l h k=Fm (D.sub (D.at es el) j 1 false) id el j sz l h k:=rfl
@[congr] def afq{d:D}{id:Nat}{l:AV}{h:Option AV}(h0:d=d'):Fm d id el j sz l h k=Fm d' id el j sz l h k:=by rw[h0]
def Ug{id:Nat}{l:AV}{h:Option AV}:Fm (.ls nn gQ ds) id el j sz l h k=
  (gQ=sz∧wK l (h.getD (.im none (.sc (.int .i64 ds.length)))) ds.length fun l h=>k (.qs id el j sz l (h-l)) []):=rfl
@[congr] def aek(h0:x=x'):Ds x sz k=Ds x' sz k:=by rw[h0]
def Qo{q:Nat}:Ds (.im t (.ls nn q ds)) sz k=k (.z0 nn sz) []:=rfl
def LD{f:Nat}{d:Option Nat}:qe (.im t (.fn f ds)) Q d args un k=nU Q d f (args++ds.map (.im t)) un k:=rfl
def L9{f:Nat}{d:Option Nat}:qe (.cl f vs) Q d args un k=nU Q d f (args++vs) un k:=rfl
def QC:pO (.ss i off len) un k=k (.im none (.sc (.int .i64 len))) []:=rfl
def RS:pO (.z0 nn sz) un k=k (.im none (.sc (.int .i64 0))) []:=rfl
def TU:pO (.qs i el j gQ off len) un k=wJ (AV.den un (.qs i el j gQ off len)) k:=rfl
attribute [go_sem] Zk TP XG Za Uo TN Mq OE M4 Yk QY Wt Zh Uv Tk Ug Qo LD L9 QC RS TU
def adn(u:Option U)(id el j gQ off len:Nat):Option (Option Nat×D):=match u with|some (.ar true _ _ es)=>(xK off len gQ (D.sub (D.at es el) j 1 false)).map (some id,·)|_=>none
def WE{id:Nat}:AV.den un (.qs id el j gQ off len)=adn (un id) id el j gQ off len:=rfl
def T6{id:Nat}:adn (some (.ar true nn sz es)) id el j gQ off len=(xK off len gQ (D.sub (D.at es el) j 1 false)).map (some id,·):=rfl
def OM:xK off len gQ (.ls nn sz ds)=if sz=gQ then some (.ls (if off=0∧len=ds.length then nn else none) sz ((ds.drop off).take len))else none:=rfl
def W2{id:Nat}{st:St}:CZ (.pq id el j gQ ic j') x st sz f=it 12 st x (WT id el j gQ ic j' sz f):=rfl
@[congr] def ag7{id:Nat}{d:D}{st:St}(h1:own=ul)(h2:d=d')(h3:st=fS):WT id el j gQ ic j' sz f own d st=WT id el j gQ ic j' sz f ul d' fS:=by rw[h1,h2,h3]
def YF{id:Nat}{d:D}{st:St}:WT id el j gQ ic j' sz f own d st=stQ (st.unit id) id el j gQ ic j' sz own d st f:=rfl
@[congr] def afK{id:Nat}{d:D}(h0:u=u'):stQ u id el j gQ ic j' sz own d fS f=stQ u' id el j gQ ic j' sz own d fS f:=by rw[h0]
def Wq{id:Nat}{d:D}:stQ (some (.ar true nn usz es)) id el j gQ ic j' sz own d fS f=stI nn usz es id el j gQ ic j' sz own d fS f (D.sub (D.at es el) j 1 false):=rfl
@[congr] def af6{id:Nat}{d:D}{q q':D}(h0:q=q'):stI nn usz es id el j gQ ic j' sz own d fS f q=stI nn usz es id el j gQ ic j' sz own d fS f q':=by rw[h0]
def YS{id:Nat}{d:D}:stI nn usz es id el j gQ ic j' sz own d fS f (.ls jc gv ds)=
  ((gv = gQ ∧ d.size = sz ∧ j' < gQ ∧ j' + sz ≤ gQ ∧ el < es.length ∧ ic < ds.length ∧ (j = 0 ∧ usz = 1 ∧ (D.at es el).fK = false ∨ (D.at es el).fK = true ∧ usz ≠ 1) ∧ (j' = 0 ∧ sz = gQ ∨ (D.at ds ic).fK = true) ∧ d.gJ = true) ∧
   f (fS.mc id (.ar true nn usz (ni es usz el j (.ls jc gv (ds.set ic (D.put gv (D.at ds ic) j' sz d))))))):=rfl
def Rn{q:Nat}:yr (.z0 nn q) own ds fS d sz bytes f=
  ((ds.length*bytes≤140737488355328∧ds.length≤gp∧0<sz∧own=true∧(∀e∈ds,e.size=sz)∧fS.fresh [(d,.own .jk)]=true)∧f ((fS.iQ [(d,.own (.ls (gC nn ds) sz ds))]).set d (.tr d))):=rfl
@[congr] def aeJ{q q':Option D}{st:St}{f:Nat→St→Prop}(h0:q=q')(h1:x=x'):Im q x sz st f=Im q' x' sz st f:=by rw[h0,h1]
def Uf{st:St}{f:Nat→St→Prop}:Im (some (.ls nn gv ds)) x sz st f=((gv=sz∧0<sz∧fC ds=true)∧BM x sz ds st f):=rfl
def TX{y:AV}{d:Option Nat}{st:St}:LK x y d sz st f=Im (y.arg st.unit) x sz st fun n fS=>f (fS.kl d (.im none (.sc (.int .i64 n)))):=rfl
@[congr] def aex{st:St}{f:Nat→St→Prop}(h0:x=x'):BM x sz ds st f=BM x' sz ds st f:=by rw[h0]
def TA{id:Nat}{st:St}{f:Nat→St→Prop}:BM (.sm id off len) sz ds st f=Ge (st.unit id) id off len sz ds st f:=rfl
def RK{id:Nat}{st:St}{f:Nat→St→Prop}:BM (.cw id el j 1 false) sz ds st f=BL (st.unit id) id el j 0 none sz ds st f:=rfl
def Sj{id:Nat}{st:St}{f:Nat→St→Prop}:BM (.qs id el j gQ off len) sz ds st f=(gQ=sz∧BL (st.unit id) id el j off (some len) sz ds st f):=rfl
def SC{id:Nat}{st:St}{f:Nat→St→Prop}:BM (.ss id off len) sz ds st f=JJ (st.unit id) id off len sz ds st f:=rfl
@[congr] def aeO{id:Nat}{st:St}{f:Nat→St→Prop}(h0:u=u'):JJ u id off len sz ds st f=JJ u' id off len sz ds st f:=by rw[h0]
def Q2{id:Nat}{st:St}{f:Nat→St→Prop}:JJ (some (.ar true nn usz es)) id off len sz ds st f=
  ((0<len∧usz=sz∧off+len≤es.length)∧f (min len ds.length) (st.mc id (.ar true nn usz (wx es off (min len ds.length) ds)))):=rfl
@[congr] def aeS{id:Nat}{st:St}{f:Nat→St→Prop}(h0:u=u'):Ge u id off len sz ds st f=Ge u' id off len sz ds st f:=by rw[h0]
def S8{id:Nat}{st:St}{f:Nat→St→Prop}:Ge (some (.ar true nn usz es)) id off len sz ds st f=
  ((usz=sz∧off+len≤es.length)∧f (min len ds.length) (st.mc id (.ar true nn usz (wx es off (min len ds.length) ds)))):=rfl
@[congr] def aeY{id:Nat}{len:Option Nat}{st:St}{f:Nat→St→Prop}(h0:u=u'):BL u id el j off len sz ds st f=BL u' id el j off len sz ds st f:=by rw[h0]
def Rm{id:Nat}{len:Option Nat}{st:St}{f:Nat→St→Prop}:BL (some (.ar true nn usz es)) id el j off len sz ds st f=EZ nn usz es id el j off len sz ds st f (D.sub (D.at es el) j 1 false):=rfl
@[congr] def afr{id:Nat}{len:Option Nat}{st:St}{f:Nat→St→Prop}{q q':D}(h0:q=q'):EZ nn usz es id el j off len sz ds st f q=EZ nn usz es id el j off len sz ds st f q':=by rw[h0]
def SH{id:Nat}{len:Option Nat}{st:St}{f:Nat→St→Prop}:EZ nn usz es id el j off len sz ds st f (.ls jc gv ds')=
  ((gv = sz ∧ el < es.length ∧ (j = 0 ∧ usz = 1 ∧ (D.at es el).fK = false ∨ (D.at es el).fK = true ∧ usz ≠ 1)) ∧
   f (min (len.getD ds'.length) ds.length) (st.mc id (.ar true nn usz (ni es usz el j (.ls jc gv (wx ds' off (min (len.getD ds'.length) ds.length) ds)))))):=rfl
def ac9{u:Option Nat}:U1 (.im t (.sc (.string s))) (.im u (.sc (.int a m))) k=((0≤m∧m<s.size)∧k (.im none (.sc (.int .u8 (s.data.getD m.toNat 0).toNat))) []):=rfl
def RD:wJ (some (t,.ls nn sz ds)) k=k (.im none (.sc (.int .i64 ds.length))) []:=rfl
def RT:pO (.im t (.ls nn sz ds)) un k=k (.im none (.sc (.int .i64 ds.length))) []:=rfl
def QE{b:Nat}:pO (.im t (.lc b o (.ls nn sz ds))) un k=k (.im none (.sc (.int .i64 ds.length))) []:=rfl
def Tq:pO (.sm i off len) un k=k (.im none (.sc (.int .i64 len))) []:=rfl
def Qu{b:Nat}:wJ (some (t,.lc b o (.ls nn sz ds))) k=k (.im none (.sc (.int .i64 ds.length))) []:=rfl
def QH:pO (.tr i) un k=wJ (AV.den un (.tr i)) k:=rfl
def Ul:pO (.cw i el j cz cg) un k=wJ (AV.den un (.cw i el j cz cg)) k:=rfl
attribute [go_sem] WE T6 OM W2 YF Wq YS Rn Uf TX TA RK Sj SC Q2 S8 Rm SH ac9 RD RT QE Tq Qu QH Ul
def abt(u:Option U)(id el j cz:Nat)(cg:Bool):Option (Option Nat×D):=match u with|some (.ar true _ _ es)=>some (some id,D.sub (D.at es el) j cz cg)|_=>none
def abG(u:Option U)(k:Nat):Option (Option Nat×D):=match u with|some (.own d)=>some (some k,d)|_=>none
def WU{d:D}:AV.den un (.im t d)=some (t,d):=rfl
def XW{k:Nat}:AV.den un (.tr k)=abG (un k) k:=rfl
def Yu{id:Nat}:AV.den un (.cw id el j cz cg)=abt (un id) id el j cz cg:=rfl
def Ro{id:Nat}:abt (some (.ar true nn sz es)) id el j cz cg=some (some id,D.sub (D.at es el) j cz cg):=rfl
def Lg{d:D}{k:Nat}:abG (some (.own d)) k=some (some k,d):=rfl
def Rj{f:Nat}{d:Option Nat}:qe (.im t (.sc (.func (.func f) ⟨[]⟩ ⟨[]⟩))) Q d args un k=nU Q d f args un k:=rfl
def Xj:wE (.jS vs) i k=(i<vs.length∧k (vs.getD i .any) []):=rfl
def LI{d:D}{st:St}{k:KT}:sv (some (.own d)) i st k=k true d (st.del i):=rfl
def NR{st:St}{k:KT}:uM (some (.ar true nn sz es)) i off len st k=((off=0∧len=es.length)∧k true (.ls nn sz es) (st.del i)):=rfl
@[congr] def aaB{st:St}{k:KT}(h0:u=u'):uE u i el j sz agg st k=uE u' i el j sz agg st k:=by rw[h0]
def Ns{st:St}{k:KT}:uE (some (.ar true nn usz es)) i el j sz agg st k=((agg=true→(D.at es el).fK=true)∧k true (D.sub (D.at es el) j sz agg) (st.KH i (if j=0∧sz=usz then some el else none) (.ar true nn usz (es.set el (D.put usz (D.at es el) j sz (rZ sz agg)))))):=rfl
def Fi{d:D}{st:St}{k:KT}:gH st (.im (some i) d) k=(d.gJ=true∧k true d st):=by simp only[gH]
def MF{st:St}{k:KT}:gH st (.cw i el j sz agg) k=uE (st.unit i) i el j sz agg st k:=by simp only[gH]
def LR{st:St}{k:KL}:oK st sz (.cw i el j cz cg) k=se (AV.arg st.unit (.cw i el j cz cg)) sz st k:=rfl
def SB:yr (.cw i el j cz cg) own ds fS d sz bytes f=gH fS (.cw i el j cz cg) (D0 own ds d sz bytes f):=rfl
def ER{d:D}{st:St}{k:KT}:gH st (.im none d) k=k d.gJ d st:=by simp only[gH]
def OB{st:St}{k:KT}:gH st (.tr i) k=sv (st.unit i) i st k:=by simp only[gH]
def L2{st:St}{k:KT}:gH st (.sm i off len) k=uM (st.unit i) i off len st k:=by simp only[gH]
def M5{st:St}{k:KT}:gH st (.sg vs) k=oG st vs (YK k):=by simp only[gH]
def JK{st:St}{k:KL}:oG st [] k=k true [] st:=by simp only[oG]
def Gf{st:St}{k:KL}:oG st (v::vs) k=gH st v (SZ vs k):=by simp only[oG];rfl
@[congr] def abm{st:St}{k:KT}(h:st=fS)(h':v=v'):gH st v k=gH fS v' k:=by rw[h,h']
def Ok{n:Nat}{d:D}{st:St}{k:KT}:it n st (.im none d) k=k d.flat d st:=by cases n<;>simp only[it]
def Iv{n:Nat}{t:Nat}{d:D}{st:St}{k:KT}:it n st (.im (some t) d) k=gH st (.im (some t) d) k:=by cases n<;>simp only[it]
def Nz{n:Nat}{st:St}{k:KT}:it n st (.tr i) k=gH st (.tr i) k:=by cases n<;>simp only[it]
def Lh{n:Nat}{st:St}{k:KT}:it n st (.sm i off len) k=gH st (.sm i off len) k:=by cases n<;>simp only[it]
def Mw{n:Nat}{st:St}{k:KT}:it n st (.cw i el j sz agg) k=gH st (.cw i el j sz agg) k:=by cases n<;>simp only[it]
def Nc{n:Nat}{st:St}{k:KT}:it (n+1) st (.sg vs) k=kA (it n) st vs (YK k):=by simp only[it]
def Mc{n:Nat}{st:St}{k:KT}:it (n+1) st (.vb i len) k=sC (it n) (st.unit i) i len st k:=by simp only[it]
@[congr] def abO{n:Nat}{st:St}{k:KT}(h:st=fS)(h':v=v'):it n st v k=it n fS v' k:=by rw[h,h']
@[congr] def aaG{f:St→AV→KT→Prop}{st:St}{k:KT}(h:u=u'):sC f u i len st k=sC f u' i len st k:=by rw[h]
def N5{f:St→AV→KT→Prop}{st:St}{k:KT}:sC f (some (.bx sz items)) i len st k=(len=items.length∧kA f (st.del i) items (lsC sz k)):=rfl
def FQ{f:St→AV→KT→Prop}{st:St}{k:KL}:kA f st [] k=k true [] st:=rfl
def Dp{f:St→AV→KT→Prop}{st:St}{k:KL}:kA f st (v::vs) k=f st v (QI f vs k):=rfl
@[congr] def aaA{f:St→AV→KT→Prop}{st:St}{v v':List AV}{k:KL}(h:st=fS)(h':v=v'):kA f st v k=kA f fS v' k:=by rw[h,h']
attribute [go_sem] WU XW Yu Ro Lg Rj Xj LI NR Ns Fi MF LR SB ER OB L2 M5 JK Gf Ok Iv Nz Lh Mw Nc Mc N5 FQ Dp
variable {b':Bool}
@[congr] def aes{f:St→AV→KT→Prop}{k:KL}{d:D}{st:St}(h1:vs=Eh)(h2:b=b')(h3:d=d')(h4:st=fS):QI f vs k b d st=QI f Eh k b' d' fS:=by rw[h1,h2,h3,h4]
def RN{f:St→AV→KT→Prop}{k:KL}{d:D}{st:St}:QI f vs k b d st=kA f st vs (zh b d k):=rfl
@[congr] def agb{k:KT}{st:St}(h2:b=b')(h3:ds=ds')(h4:st=fS):lsC sz k b ds st=lsC sz k b' ds' fS:=by rw[h2,h3,h4]
def WJ{k:KT}{st:St}:lsC sz k b ds st=((0<sz∧b=true∧∀d∈ds,d.size=sz)∧k true (.ls (some false) sz ds) st):=rfl
@[congr] def acl{st:St}{v v':List AV}{k:KL}(h:st=fS)(h':v=v'):oG st v k=oG fS v' k:=by rw[h,h']
@[congr] def acL{st:St}{k:KL}(h:st=fS)(h':v=v'):oK st sz v k=oK fS sz v' k:=by rw[h,h']
@[congr] def afj{k:KL}{d:D}{st:St}(h1:vs=Eh)(h2:b=b')(h3:d=d')(h4:st=fS):SZ vs k b d st=SZ Eh k b' d' fS:=by rw[h1,h2,h3,h4]
def TC{k:KL}{d:D}{st:St}:SZ vs k b d st=oG st vs (zh b d k):=rfl
@[congr] def afz{k:KL}{c c':Bool}{d:D}{st:St}(h2:b=b')(h3:d=d')(h5:c=c')(h6:ds=ds')(h4:st=fS):zh b d k c ds st=zh b' d' k c' ds' fS:=by rw[h2,h3,h4,h5,h6]
def S9{k:KL}{c:Bool}{d:D}{st:St}:zh b d k c ds st=((b=true∨c=false∨fC ds=true)∧(c=true∨b=false∨d.gJ=true)∧k (C5 b d.gJ c (fC ds)) (d::ds) st):=rfl
@[congr] def ahb{k:KT}{st:St}(h1:b=b')(h2:ds=ds')(h3:st=fS):YK k b ds st=YK k b' ds' fS:=by rw[h1,h2,h3]
def Xo{k:KT}{st:St}:YK k b ds st=k b (.ag (ds.map D.cells).flatten) st:=rfl
def RZ{w6:Nat}{st:St}{k:KL}:yz (some (.bx w6 items)) i len sz st k=((w6=sz∧len=items.length)∧kA (it 12) (st.del i) items k):=rfl
def Sl{st:St}{k:KL}:se (some (.ls nn gv ds)) sz st k=((sz=gv∧fC ds=true)∧k true ds st):=rfl
def LZ{st:St}{k:KL}:oK st sz (.vb i len) k=yz (st.unit i) i len sz st k:=rfl
def Oz{st:St}{k:KL}:oK st sz (.im none (.ls nn gv ds)) k=(sz=gv∧k (fC ds) ds st):=rfl
def Lw{d:D}{st:St}{k:KL}:oK st sz (.im (some i) d) k=se (some d) sz st k:=rfl
def LW{st:St}{k:KL}:oK st sz (.tr i) k=se (AV.arg st.unit (.tr i)) sz st k:=rfl
def L7{st:St}{k:KL}:oK st sz (.sm i off len) k=se (AV.arg st.unit (.sm i off len)) sz st k:=rfl
def Wg{id:Nat}{st:St}:CZ (.pw id el j) x st sz f=if x.isRef=true then Ru (st.unit id) id el j sz x st f else it 12 st x (YJ id el j sz f):=rfl
@[congr] def ag3{id:Nat}{d:D}{st:St}(h1:own=ul)(h2:d=d')(h3:st=fS):YJ id el j sz f own d st=YJ id el j sz f ul d' fS:=by rw[h1,h2,h3]
def Zg{id:Nat}{d:D}{st:St}:YJ id el j sz f own d st=stU (st.unit id) id el j sz own d st f:=rfl
def Yb{id:Nat}{d:D}:stU (some (.ar ow nn usz es)) id el j sz own d fS f=
  ((d.size = sz ∧ j + sz ≤ usz ∧ el < es.length ∧ (j = 0 ∧ sz = usz ∨ (D.at es el).fK = true) ∧ (own = ow ∨ d.gJ = true ∨ fC es = true)) ∧
    f (fS.mc id (.ar (fO own ow d.flat (fC es)) nn usz (es.set el (D.put usz (D.at es el) j sz d))))):=rfl
@[congr] def aev{x:X}{st:St}(h1:own=ul)(h2:ds=ds')(h3:st=fS):DM x d sz bytes f own ds st=DM x d sz bytes f ul ds' fS:=by rw[h1,h2,h3]
def Up{x:X}:DM x d sz bytes f own ds fS=yr (fS.ev x) own ds fS d sz bytes f:=rfl
def NF{q:Nat}:yr (.im t (.ls (some true) q [])) own ds fS d sz bytes f=
  ((ds.length*bytes≤140737488355328∧ds.length≤gp∧0<sz∧(∀e∈ds,e.size=sz)∧fS.fresh [(d,.own .jk)]=true)∧f ((fS.iQ [(d,.ar own (gC (some true) ds) sz ds)]).set d (.sm d 0 ds.length))):=rfl
def Rt{id:Nat}:yr (.sm id off len) own ds fS d sz bytes f=Jl (fS.unit id) id off len own ds fS d sz bytes f:=rfl
def TO:yr (.tr i) own ds fS d sz bytes f=gH fS (.tr i) (D0 own ds d sz bytes f):=rfl
@[congr] def aeL{o o':Bool}{e e':D}{st:St}(h1:o=o')(h2:e=e')(h3:st=fS):D0 own ds d sz bytes f o e st=D0 own ds d sz bytes f o' e' fS:=by rw[h1,h2,h3]
def Rx{KI:St}:D0 own ds d sz bytes f ul (.ls nn gv es) KI=
  ((gv = sz ∧ own = true ∧ ul = true ∧ (es.length + ds.length) * bytes ≤ 140737488355328 ∧ es.length + ds.length ≤ gp ∧ (∀ e ∈ ds, e.size = sz) ∧ 0 < sz ∧ KI.fresh [(d, .own .jk)] = true) ∧
    f ((KI.iQ [(d,.own (.ls (gC nn ds) sz (es++ds)))]).set d (.tr d))):=rfl
def SM{id:Nat}:Jl (some (.ar ow nn usz es)) id off len own ds fS d sz bytes f=
  ((usz = sz ∧ 0 < sz ∧ off = 0 ∧ yk len es ∧ (len + ds.length) * bytes ≤ 140737488355328 ∧ len + ds.length ≤ gp ∧ (∀ e ∈ ds, e.size = sz) ∧ (own = ow ∨ fC ds = true ∨ fC (rT len es) = true)) ∧
    f ((fS.upr id (.ar (fO own ow (D.n9 ds) (fC (rT len es))) (gC nn ds) sz (rT len es++ds))).set d (.sm id 0 (len+ds.length)))):=rfl
attribute [go_sem] RN WJ TC S9 Xo RZ Sl LZ Oz Lw LW L7 Wg Zg Yb Up NF Rt TO Rx SM
attribute [go_sem] yk rT
end
attribute [go_sem] D.flat D.n9 pi EU rZ List.replicate_succ List.replicate_zero CF T0 zk Mo gC fO TQ bsS ND D2 AV.HQ xG iP pW xi I8 AI AV.size C5 sJ AV.arg AV.shared jp gS gS.oa D.gJ D.nf D.size D.f6 D.put fC lz.dst
attribute [go_sem] if_true if_false ite_true ite_false reduceCtorEq true_and and_true true_implies List.map_nil List.map_cons List.length_nil List.length_cons List.length_map List.nil_append List.cons_append
 dC dm cS cT aB or_true true_or or_false dK Bool.not_true Bool.not_false cx cb List.flatten_nil cE List.all_nil
 bc beq_self_eq_true Bool.true_and Bool.and_true Bool.false_and Bool.and_false af ab ah ae aD aF ej e7
 aE Int.toNat_zero aw aC List.isEmpty_nil List.isEmpty_cons az aA aJ aG List.drop_nil List.take_nil
 Bool.not_eq_true Bool.not_eq_false bn cI
def Nv(d:D)(ds:List D):D.at (d::ds) 0=d:=rfl
attribute [go_sem] Nv
variable {agg:Bool}{ds:List D}{j sz:Nat}
def XH:D.sub (.ag ds) j sz agg=if agg then .ag ((ds.drop j).take sz)else ds.getD j default:=rfl
attribute [go_sem] XH
variable {v:Value}
def f9:D.sub (.sc v) j sz agg=.sc v:=rfl
attribute [go_sem] f9
variable {z:Nat}{nn:Option Bool}
def gd:D.sub (.ls nn z ds) j sz agg=.ls nn z ds:=rfl
attribute [go_sem] gd
variable {d:D}{b:Nat}
def Zq{o:Nat}:D.sub (.lc b o d) j sz agg=.lc b o d:=rfl
def Q7{o:Nat}:D.fK (.lc b o d)=false:=rfl
def LC{o:Nat}:D.cells (.lc b o d)=[.lc b o d]:=rfl
attribute [go_sem] Zq Q7 LC
variable {i:Nat}
def Wi:D.sub (.pt d i) j sz agg=.pt d i:=rfl
def YE:D.sub .jk j sz agg=.jk:=rfl
def fV:D.fK (.ag ds)=true:=rfl
def fU:D.fK (.sc v)=false:=rfl
def fT:D.fK (.ls nn z ds)=false:=rfl
def SV:D.fK (.pt d i)=false:=rfl
def Sw:D.fK .jk=false:=rfl
def O0:D.cells (.ag ds)=ds:=rfl
def OH:D.cells (.sc v)=[.sc v]:=rfl
def Lp:D.cells (.ls nn z ds)=[.ls nn z ds]:=rfl
def NZ:D.cells (.pt d i)=[.pt d i]:=rfl
def MU:D.cells .jk=[.jk]:=rfl
attribute [go_sem] Wi YE fV fU fT SV Sw O0 OH Lp NZ MU
variable {p q:Prop}
@[go_sem high] def aep{t:Option Nat}:nK (.im t (.sc (.bool true))) true p q=p:=by simp[nK]
@[go_sem high] def aey{t:Option Nat}:nK (.im t (.sc (.bool true))) false p q=q:=by simp[nK]
@[go_sem high] def afx{t:Option Nat}:nK (.im t (.sc (.bool false))) true p q=q:=by simp[nK]
@[go_sem high] def afh{t:Option Nat}:nK (.im t (.sc (.bool false))) false p q=p:=by simp[nK]
@[go_sem high] def ae1{t:Option Nat}:si (.im t (.sc (.bool true))) p q=p:=by simp[si]
@[go_sem high] def aez{t:Option Nat}:si (.im t (.sc (.bool false))) p q=q:=by simp[si]
@[go_sem high] def aeP{t:Option Nat}{a b:AV}{k:KQ}:pr (.im t (.sc (.bool true))) a b k=k a []:=by simp[pr]
@[go_sem high] def aeN{t:Option Nat}{a b:AV}{k:KQ}:pr (.im t (.sc (.bool false))) a b k=k b []:=by simp[pr]
attribute [go_sem] Bool.not_true Bool.not_false
def lz.xs:lz→List X
 |.mv _ x|.box _ _ x|.ld _ _ _ x|.nck _ x|.un _ _ x|.cvt _ _ x|.fa _ _ x|.fl _ _ _ _ x|.len _ x|.slen _ x|.ext _ x _=>[x]
 |.pick _ c a b=>[c,a,b]
 |.zer .. =>[]
 |.st _ a x=>[a,x]
 |.bin _ _ x y|.beq _ _ x y|.snil _ _ x y|.ceq _ _ _ x y|.ia _ _ x y|.ix _ x y|.app _ _ _ x y=>[x,y]
 |.mk _ _ _ _ l c=>[l,c]
 |.slc _ _ x lo hi|.sls _ x lo hi=>x::(lo.toList++hi.toList)
 |.call _ _ args=>args
 |.calv _ x args=>x::args
 |.bs _ _ _ _ ps=>ps.map (·.2)
 |.bld _ _ ps=>ps.map (·.2.2)
 |.Eg _ _ x y=>[x,y]
 |.cls _ _ x args=>x::args
 |.mkf _ _ args=>args
 |.s30 _ _ x=>[x]
 |.mxm _ _ x y=>[x,y]
 |.bse _ _=>[]
 |.zsb _ _ _=>[]
 |.ZP _ _ x args=>x::args
 |.K6 _ _ x=>[x]
 |.ape _ _ _ x y=>[x,y]
 |.cvs _ x=>[x]
 |.Uy _ _ x y=>[x,y]
 |.ZO _ _ args=>args
 |.VG _ _ _ x y=>[x,y]
 |.VH _ a x=>[a,x]
 |.VI _ _ args=>args
 |.mkm _=>[]
 |.lku _ _ _ _ m k=>[m,k]
 |.ZR _ m k v=>[m,k,v]
 |.mln _ m=>[m]
 |.ZQ _ _ _ ps=>ps.map (·.2)
 |.GC _ x args=>x::args
 |.other _=>[]
def X.slot:X→Option Nat
 |.t n=>some n
 |.c _=>none
def RO.jU(r:RO):List Nat:=r.op.xs.filterMap X.slot++(match r.g with|some (t,_)=>[t]|none=>[])
def mT(o:Oper):List Nat:=(o.after.toList.filter (fun e=>Region.binds .any e)).map (·.on)
def fM(ops:Array Oper)(i:Nat):List Nat:=match ops[i]? with|some o=>mT o|none=>[]
def yy:List Nat→Bool
 | []=>true
 |x::l=>!l.contains x&&yy l
def nI(ops:Array Oper)(R:List RO)(i:Nat)(t:Nat):Bool:=
 (List.range R.length).all fun j =>
  match R[j]? with
  |some r=>r.op.dst !=some t||(j<i&&(fM ops i).contains j)||(i<j&&(fM ops j).contains i)
  |none=>true
def sD(ops:Array Oper)(R:List RO):Bool:=
 yy (R.filterMap (·.op.dst))&&(R.length==ops.size)&&
 (List.range R.length).all fun i =>
  (fM ops i).all (· <i)&&
  match R[i]? with
  |some r=>r.op.sq&&r.jU.all (nI ops R i)
  |none=>true
variable {us:List (Nat×U)}
def fB{k:Nat}{u:U}(h:lu us k=some u):(k,u)∈us:=by
 induction us with
 |nil=>simp[lu]at h
 |cons x us ih=>
  obtain⟨i,v⟩:=x;simp only[lu]at h
  split at h
  ·next e=>obtain rfl:=aQ h;subst e;simp
  exact bt _ (ih h)
def D.ja(h:∀d∈ds,d.size=1∧d.fK=false):D.f6 ds=ds.length:=by
 rw[D.fG (sz:=1) fun d hd=>(h d hd).1];omega
def jV(hd:d.fK=false)(hv:v.oneCell'=true):d.fits v:=by
 cases d<;>simp_all [D.fits,D.fK]
def fP(hv:v.oneCell'=true):v.cells= #[v]:=by
 cases v<;>simp_all [Value.cells,Value.oneCell']
variable {h:ij}
def f8.sub{F:List Nat}{cs:List Value}(hr:f8 h d F cs)(hj:j+sz≤d.size)(ha:agg=true→d.fK=true)(h1:agg=false→sz=1):
  ∃F1 F2 F3 c1 c2 c3,F=F1++(F2++F3)∧cs=c1++(c2++c3)∧c1.length=j∧c2.length=sz∧f8 h (D.sub d j sz agg) F2 c2∧(D.sub d j sz agg).fK=agg:=by
 by_cases hd:d.fK=true
 ·cases d with
  |ag ds=>
   simp only[f8]at hr;obtain⟨hs,hr⟩:=hr;simp only[D.size,D.ja hs]at hj;have e:ds=ds.take j++((ds.drop j).take sz++(ds.drop j).drop sz):=by rw[bw,bw]
   rw[e]at hr;obtain⟨F1,F23,c1,ZW,rfl,rfl,r1,r23⟩:=hr.split;obtain⟨F2,F3,c2,c3,rfl,rfl,r2,r3⟩:=r23.split;have l1:c1.length=j:=by
    rw[r1.length,D.ja fun d hd=>hs d (bf hd)];simp;omega
   have vG:∀d∈(ds.drop j).take sz,d.size=1∧d.fK=false:=fun d hd=>hs d (cd (bf hd));have l2:c2.length=sz:=by
    rw[r2.length,D.ja vG];simp;omega
   refine⟨F1,F2,F3,c1,c2,c3,rfl,rfl,l1,l2,?_,?_⟩
   ·cases agg with
    |true=>simp only[D.sub,aK,f8];exact⟨vG,r2⟩
    |false=>
     obtain rfl:=h1 rfl;simp only[D.sub,kY,aH];have gI:j<ds.length:=by omega
     have e2:(ds.drop j).take 1=[ds[j]]:=by
      rw[cy gI];simp only[aG,aA]
     rw[e2]at r2;rw[ig]at r2;obtain⟨G1,G2,e1,e3,rfl,rfl,q1,q2⟩:=r2;obtain⟨rfl,rfl⟩:=lS.1 q2;have:ds.getD j default=ds[j]:=by simp[List.getD,bR gI]
     rw[this];simpa using q1
   cases agg with
   |true=>simp[D.sub,D.fK]
   |false=>
    have gI:j<ds.length:=by have:=h1 rfl;omega
    have:ds.getD j default=ds[j]:=by simp[List.getD,bR gI]
    simp only[D.sub,kY,aH,this];exact(hs _ (aZ gI)).2
  |_=>simp[D.fK]at hd
 have O9:agg=false:=by cases agg<;>simp_all
 subst O9;obtain rfl:=h1 rfl;have jm:d.size=1:=by cases d<;>simp_all [D.size,D.fK]
 have hH:D.sub d j 1 false=d:=by cases d<;>simp_all [D.sub,D.fK]
 have hl:=hr.length;refine⟨[],F,[],[],cs,[],by simp,by simp,by simp;omega,by omega,by rw[hH];exact hr,by rw[hH];simpa using hd⟩
def D.j7(h:i<ds.length):D.at ds i=ds[i]:=by simp[D.at,List.getD,bR h]
def getElem?_mid{α:Type}{a b c:List α}{v:α}(h:b[i]?=some v):(a++(b++c))[a.length+i]?=some v:=by
 have hi:i<b.length:=(bF.1 h).1;rw[eo (by omega),da (by omega)];simpa using h
def vD{c:Array Value}{o:Nat}{c2:List Value}(hl:c2.length=sz)(hp:∀i v,c2[i]?=some v→c[o+i]?=some v):(c.toList.drop o).take sz=c2:=by
 apply et
 intro i;rw[dp]
 split
 ·next hi=>
  have Ei:i<c2.length:=by omega
  have h1:c2[i]?=some c2[i]:=bR Ei;have h2:=hp i _ h1;rw[←cr]at h2;rw[cJ,h2,h1]
 rw[e8 (by omega)]
def pg{g:Gh}{n0:Nat}{S0 M0:Nat→Prop}(hu:gr h n0 S0 M0 us g){id:Nat}{ow:Bool}{nn:Option Bool}{usz:Nat}{es:List D}
  (hm:(id,U.ar ow nn usz es)∈us) {el j sz b:Nat} {agg:Bool} (mD:el<es.length) (hb:g.β id=some b) (hj:j+sz≤usz) (ha:agg=true→(D.at es el).fK=true) (h1:agg=false→sz=1):
  ∃c e F2 c2,h[b]?=some (.cells c e (0,0))∧(∀i v,c2[i]?=some v→c[el*usz+j+i]?=some v)∧c2.length=sz∧f8 h (D.sub (D.at es el) j sz agg) F2 c2∧
   (D.sub (D.at es el) j sz agg).fK=agg∧el*usz+usz≤c.size∧(if ow then ∀x∈F2,x∈g.φ id∧g.β id≠some x else ∀x∈F2,g.Sh x):=by
 have ho:=hu.each _ hm;simp only[hP]at ho;obtain⟨_,hs,ho⟩:=ho;rcases ho with⟨h0,_⟩|⟨b',c,e,G,cs,rest,k1,k2,k3,k4,k5,k6,k7,k8⟩
 rw[hb]at h0;cases h0;rw[hb]at k1;obtain rfl:=aQ k1;obtain⟨F1,F2,F3,c1,c2,c3,rfl,rfl,r1,r2,r3⟩:=k6.pick mD;have jm:(es[el]).size=usz:=hs _ (aZ mD);rw[D.j7 mD]at ha⊢;obtain⟨A1,A2,A3,d1,d2,d3,rfl,rfl,q1,q2,q3,q4⟩:=r2.sub (agg:=agg) (by rw[jm];exact hj) ha h1;have l1:c1.length=el*usz:=by
  rw[r1.length,D.fG (sz:=usz) fun d hd=>hs d (bf hd)];rw[bk,bl (db mD)]
 have l2:=r2.length;refine⟨c,e,A2,d2,k2,?_,q2,q3,q4,?_,?_⟩
 ·intro i v hv;have:=getElem?_mid (a:=c1++d1) (c:=d3++c3++rest) hv;rw[←cr,k3];simp only[lP,l1,q1,bz]at this⊢;exact this
 ·have:c.toList.length=c.size:=by simp
  rw[k3]at this;simp only[lP,l1]at this;simp only[lP]at l2;rw[jm]at l2;omega
 cases ow with
 |true=>
  simp only[aK]at k8⊢;intro x hx;have yD:x∈F1++(A1++(A2++A3)++F3):=by simp[hx]
  refine⟨by rw[k8];exact bt _ yD,?_⟩;rw[hb];intro e0;obtain rfl:=aQ e0;have hn:(g.φ id).Nodup:=by
   have:=hu.nodup;clear k8;generalize KJ:us=us' at this hm;clear KJ hu
   induction us' with
   |nil=>cases hm
   |cons y ys ih=>
    simp only[fp,cp,aT]at this;rcases aj.1 hm with rfl|hm
    exact this.1;exact ih this.2.1 hm
  rw[k8]at hn;exact(aP.1 hn).1 yD
 |false=>
  simp only[kY,aH]at k8⊢;exact fun x hx=>k8.2 x (by simp[hx])
variable {P:Program}{n0:Nat}{S0 M0:Nat→Prop}{w0:World}
def jC(st:St):st.iQ []=st:=by cases st;simp[St.iQ]
def hO(n0:Nat)(S0 M0:Nat→Prop)(w0:World)(st:St)(dst:Option Nat)(k:KQ)(a':Act)(w':World):Prop:=
 ∃av us,k av us∧((us=[]∨st.fresh us=true)→ju n0 S0 M0 w0 ((st.iQ us).kl dst av) a' w')
def Qh{a:Act}{d t:Nat}(hd:d<a.tmps.size):(a.put (some d) v).tmps.getD t undef=if d=t then v else a.tmps.getD t undef:=by
 simp only[Act.put,bD,Array.getElem?_setIfInBounds]
 split
 ·next h=>subst h;simp
 rfl
def gW{st:St}{a:Act}{w:World}(hs:ju n0 S0 M0 w0 st a w){g:Gh}(hu:gr w.heap n0 S0 M0 st.us g)
  (hv:∀t,fx w.heap st.us g (lk st.env t) (a.tmps.getD t undef)) {d:Option Nat} (hd:∀i,d=some i→i<st.n) {av:AV} {v:Value} (hr:fx w.heap st.us g av v):
  ju n0 S0 M0 w0 (st.kl d av) (a.put d v) w:=by
 cases d with
 |none=>exact hs
 |some d=>
  have ZX:=hd d rfl;refine⟨hs.ms,hs.mS,by simp[Act.put,St.kl,St.set,hs.tm],hs.base,hs.os,hs.tape,hs.output,hs.size,hs.iD,g,hu,fun t=>?_⟩;rw[Qh (by rw[hs.tm];exact ZX)];simp only[St.kl,St.set,lk]
  split;exact hr;exact hv t
def IM{st:St}{o:Oper}{a:Act}{w:World}{k:KQ}{Q':Exit→Act→World→Prop}(hs:ju n0 S0 M0 w0 st a w){g:Gh}(hu:gr w.heap n0 S0 M0 st.us g)
  (hv:∀t,fx w.heap st.us g (lk st.env t) (a.tmps.getD t undef)) (hd:∀i,o.dst=some i→i<st.n) {av:AV} {v:Value}
  (gk:(execOp a.eval o).run P w=.ok (.value v) w) (hr:fx w.heap st.us g av v) (hk:k av []):
  o.wp P a w (hO n0 S0 M0 w0 st o.dst k) Q':=by
 unfold Oper.wp;rw[gk];exact⟨av,[],hk,fun _=>by rw[jC];exact gW hs hu hv hd hr⟩
mutual
def iB:∀{d:D} {F cs},d.gJ=true→f8 h d F cs→F=[]
 |.sc _,_,_,_,hr=>by simp only[f8]at hr;exact hr.1
 |.ag ds,_,_,hn,hr=>by simp only[f8]at hr;simp only[D.gJ]at hn;exact DD hn hr.2
 |.ls nn sz ds,_,_,hn,hr=>by
  simp only[f8]at hr;simp only[D.gJ,bA,bB]at hn;rcases hr with⟨_,_,_,h3,_⟩|⟨b,off,cap,c,e,fr,F',_,_,h3,_⟩
  exact h3;exact absurd hn.1 h3
 |.pt _ _,_,_,hn,_=>by simp[D.gJ]at hn
 |.lc _ _ _,_,_,hn,_=>by simp[D.gJ]at hn
 |.jk,_,_,_,hr=>by simp only[f8]at hr;exact hr.1
def DD:∀{ds:List D} {F cs},D.nf ds=true→fR h ds F cs→F=[]
 | [],_,_,_,hr=>by simp only[fR]at hr;exact hr.1
 |d::ds,_,_,hn,hr=>by
  simp only[fR]at hr;simp only[D.nf,bA]at hn;obtain⟨F1,F2,c1,c2,rfl,rfl,h1,h2⟩:=hr;rw[iB hn.1 h1,DD hn.2 h2]
  rfl
end
def Aj(h:ij)(v:Value)(sz:Nat)(hv:v.oneCell'=true):f8 h (sn v sz) [] [v]∧(sn v sz).size=1∧(sn v sz).fK=false∧(sn v sz).gJ=true:=by
 unfold sn
 split;simp[f8,D.size,D.fK,D.gJ];simp[f8,D.size,D.fK,D.gJ,hv]
def yg(h:ij):∀(cs:List Value)(s:List Nat),s.length=cs.length→(∀v∈cs,v.oneCell'=true)→
  fR h (List.zipWith sn cs s) [] cs∧(∀d∈List.zipWith sn cs s,d.size=1∧d.fK=false)∧D.nf (List.zipWith sn cs s)=true
 | [],s,_,_=>by cases s<;>simp[fR,D.nf]
 |v::cs,[],h1,_=>by simp at h1
 |v::cs,z::s,h1,h2=>by
  have ih:=yg h cs s (by simpa using h1) fun x hx=>h2 x (by simp[hx]);have c:=Aj h v z (h2 v (by simp));refine⟨?_,?_,?_⟩;simp only[dW,fR];exact⟨[],[],[v],cs,rfl,rfl,c.1,ih.1⟩
  ·simp only[dW,aj];rintro d (rfl|hd);exact⟨c.2.1,c.2.2.1⟩;exact ih.2.1 d hd
  simp only[dW,D.nf,c.2.2.2,ih.2.2,eM]
variable {t:TypeId}
def mh(hc:A9 P t v=some d)(h:ij):f8 h d [] v.cells.toList∧d.fits v∧d.gJ=true:=by
 unfold A9 at hc
 dsimp only at hc
 split at hc
 ·next cs=>
  split at hc
  ·next hq=>
   simp only[bA,bn]at hq;obtain rfl:=aQ hc;have:=yg h cs.toList (tI P 20 t) (by simpa using hq.1) (by simpa using Array.all_eq_true_iff_forall_mem.1 hq.2);exact⟨by simp only[f8,Value.cells];exact⟨this.2.1,this.1⟩,by simp[D.fits],by simpa[D.gJ]using this.2.2⟩
  cases hc
 split at hc
 ·next hq=>
  obtain rfl:=aQ hc;have:=Aj h v ((tI P 20 t).headD 0) hq;rw[fP hq];exact⟨this.1,jV this.2.2.1 hq,this.2.2.2⟩
 cases hc
def Aq{st:St}{a:Act}{g:Gh}(hv:∀t,fx h us g (lk st.env t) (a.tmps.getD t undef)){x:Operand}{X:X}
  (hx:fY P t x=some X):fx h us g (st.ev X) (a.eval x):=by
 cases x with
 |tmp n=>
  simp only[fY,oS]at hx;subst hx;exact hv n
 |const v=>
  simp only[fY,cF]at hx;obtain⟨d,hd,rfl⟩:=hx;have:=mh hd h;simp only[St.ev,pi]
  split<;>simp only[fx]<;>exact⟨[],this.1,this.2.1,by simp⟩
 |global i=>
  simp only[fY,oS]at hx;subst hx;simp only[St.ev,pi,D.flat,aK,fx];exact⟨[],by simp[f8,Act.eval,Value.cells,Value.oneCell'],by simp[D.fits,Act.eval,Value.oneCell'],by simp⟩
 |func f=>
  simp only[fY,oS]at hx;subst hx;simp only[St.ev,pi,D.flat,aK,fx];exact⟨[],by simp[f8,Act.eval,Value.cells,Value.oneCell'],by simp[D.fits,Act.eval,Value.oneCell'],by simp⟩
def gU{g:Gh}{t:Option Nat}{x:Value}(hr:fx h us g (.im t (.sc x)) v):v=x:=by
 simp only[fx,f8,D.fits]at hr;obtain⟨F,⟨_,h1,_⟩,h2,_⟩:=hr;rw[fP h2]at h1;simpa using h1
def g8{g:Gh}{t:Option Nat}(hv:v.oneCell'=true):fx h us g (.im t (.sc v)) v:=by
 simp only[fx];exact⟨[],by simp[f8,fP hv,hv],by simp[D.fits,hv],by simp⟩
def qN{g:Gh}{t:Option Nat}{o:Nat}(hr:fx h us g (.im t (.lc b o d)) v)(hd:d.fK=false):
  fx h us g (.im t d) v∧((∃l c,v=.slice (some ⟨b,o,none⟩) l c)∨v=.pointer (some ⟨b,o,none⟩)):=by
 simp only[fx,f8]at hr⊢;obtain⟨F,⟨h1,h2⟩,h3,h4⟩:=hr;have um:v.oneCell'=true:=by simpa[D.fits]using h3
 have h5:d.fits v:=by cases d<;>simp_all [D.fits,D.fK]
 refine⟨⟨F,h2,h5,h4⟩,?_⟩;rw[fP um]at h1;simpa using h1
def zZ{g:Gh}{t:Option Nat}{o:Nat}(hr:fx h us g (.im t d) v)(hv:v=.pointer (some ⟨b,o,none⟩)):
  fx h us g (.im t (.lc b o d)) v:=by
 subst hv;simp only[fx,f8]at hr⊢;obtain⟨F,h1,h2,h3⟩:=hr;exact⟨F,⟨.inr (by simp[Value.cells]),h1⟩,by simp[D.fits,Value.oneCell'],h3⟩
variable {st:St}{o:Oper}{a:Act}{w:World}{k:KQ}{Q':Exit→Act→World→Prop}{g:Gh}
structure At (n0:Nat) (S0 M0:Nat→Prop) (w0:World) (st:St) (o:Oper) (a:Act) (w:World) (g:Gh):Prop where
 sat:ju n0 S0 M0 w0 st a w
 us:gr w.heap n0 S0 M0 st.us g
 rep:∀t,fx w.heap st.us g (lk st.env t) (a.tmps.getD t undef)
 dst:∀i,o.dst=some i→i<st.n
def At.pure_(h:At n0 S0 M0 w0 st o a w g){av:AV}(gk:(execOp a.eval o).run P w=.ok (.value v) w)(hr:fx w.heap st.us g av v)(hk:k av []):
  o.wp P a w (hO n0 S0 M0 w0 st o.dst k) Q':=IM h.sat h.us h.rep h.dst gk hr hk
variable {x:Operand}
def At.ev_(h:At n0 S0 M0 w0 st o a w g){X:Ax.X}(hx:fY P t x=some X):fx w.heap st.us g (st.ev X) (a.eval x):=Aq h.rep hx
def ab1(h:At n0 S0 M0 w0 st o a w g){X:Ax.X}(ho:o.op=.move x∨o.op=.assign x)(hx:fY P t x=some X)(hq:k (st.ev X) []):
  o.wp P a w (hO n0 S0 M0 w0 st o.dst k) Q':=by
 refine h.pure_ (v:=a.eval x) ?_ (h.ev_ hx) hq;rcases ho with ho|ho<;>simp[execOp,ho]
variable {Y:Ax.X}{y:Operand}{u:TypeId}
def YN(h:At n0 S0 M0 w0 st o a w g){c:Operand}{C X:Ax.X}(ho:o.op=.pick c x y)(hc:fY P u c=some C)(hx:fY P t x=some X)(hy:fY P t y=some Y)
  (hq:pr (st.ev C) (st.ev X) (st.ev Y) k):o.wp P a w (hO n0 S0 M0 w0 st o.dst k) Q':=by
 have e:=h.ev_ hc;unfold pr at hq
 split at hq
 ·next t' b Pa=>
  rw[Pa]at e;have ec:=gU e;cases b with
  |true=>exact h.pure_ (v:=a.eval x) (by simp[execOp,ho,ec,asBool]) (h.ev_ hx) (hq.1 rfl)
  |false=>exact h.pure_ (v:=a.eval y) (by simp[execOp,ho,ec,asBool]) (h.ev_ hy) (hq.2 rfl)
 exact hq.elim
def abK(h:At n0 S0 M0 w0 st o a w g){X:Ax.X}(ho:o.op=.nilCheck x)(hx:fY P t x=some X)(hq:qA (st.ev X) k):
  o.wp P a w (hO n0 S0 M0 w0 st o.dst k) Q':=by
 have e:=h.ev_ hx;unfold qA at hq
 split at hq
 ·next t' d j hv=>
  rw[hv]at e;have e':=e;simp only[fx,f8,D.fits]at e';obtain⟨F,⟨b,off,c,el,fr,F',h1,_⟩,h2,_⟩:=e';rw[fP h2]at h1;have h3:a.eval x=.pointer (some ⟨b,off+j,none⟩):=by simpa using h1
  exact h.pure_ (v:=a.eval x) (by simp[execOp,ho,h3]) e hq
 ·next t' b0 o0 d j hv=>
  rw[hv]at e;have e':=e;simp only[fx,f8,D.fits]at e';obtain⟨F,⟨_,b,off,c,el,fr,F',h1,_⟩,h2,_⟩:=e';rw[fP h2]at h1;have h3:a.eval x=.pointer (some ⟨b,off+j,none⟩):=by simpa using h1
  exact h.pure_ (v:=a.eval x) (by simp[execOp,ho,h3]) e hq
 ·next t' p0 hv=>
  rw[hv]at e;have h3:=gU e;exact h.pure_ (v:=a.eval x) (by simp[execOp,ho,h3]) e hq
 ·next id el j hv=>
  rw[hv]at e;have e':=e;simp only[fx]at e';obtain⟨ow,nn,sz,es,b,_,_,_,_,h3⟩:=e';exact h.pure_ (v:=a.eval x) (by simp[execOp,ho,h3]) e hq
 ·next id el j gQ ic j' hv=>
  rw[hv]at e;have e':=e;simp only[fx]at e';obtain⟨ow,nn,usz,es,b,c,ty,b',off',len',cap',_,_,_,_,_,_,h3⟩:=e';exact h.pure_ (v:=a.eval x) (by simp[execOp,ho,h3]) e hq
 ·next id j hv=>
  rw[hv]at e;have e':=e;simp only[fx]at e';obtain⟨_,_,b,_,_,h3⟩:=e';exact h.pure_ (v:=a.eval x) (by simp[execOp,ho,h3]) e hq
 exact hq.elim
variable {op:BinOp}
def xr{t:TypeId}{x y:Value}{kk:Value→Prop}(h:zk op x y kk)(w:World):
    ∃v,(binOp op t x y).run P w=.ok v w∧kk v∧v.oneCell'=true:=by
  unfold zk at h
  split at h
  · next k1 m k2 n =>
    cases op<;>simp only at h<;>
      (try simp only[binOp])<;>
      first
      |(obtain⟨rfl,h1,h⟩:=h;refine⟨_,?_,h,rfl⟩;simp[Op.intDiv,h1])
      | (obtain ⟨h1, h⟩ := h; refine ⟨_, ?_, h, rfl⟩; have h2 : ¬ n < 0 := by omega
         simp[Op.shift,h2])
      |(obtain⟨rfl,h⟩:=h;refine⟨_,?_,h,rfl⟩;simp[Op.intArith,Op.intBits,Op.intCmp])
  · next s1 s2 =>
    cases op<;>simp only at h<;>first
      |exact h.elim
      | (obtain ⟨h1, h⟩ := h
         have h2:¬(((s1.size+s2.size:Nat):Int)>IntKind.i64.max):=by simp[IntKind.max,IntKind.signed,IntKind.bits];omega
         exact⟨_,by simp only[binOp,Op.stringOp];rw[al h2];rfl,h,rfl⟩)
      |exact⟨_,rfl,h,rfl⟩
  · exact h.elim
def mK{u:Value}(hu:u.oneCell'=true)(hn:u≠.nilIface)(w:World):(eqGuard op t x y u v).run P w=.ok () w:=by
 unfold eqGuard;cases op<;>first|rfl|(cases u<;>first|rfl|exact absurd rfl hn|cases hu)
def Ua(t:TypeId)(ht:P.underlying t=some .bool)(p q:Bool)(w:World):(Op.equal t (.bool p) (.bool q)).run P w=.ok (p==q) w:=by
 show(Op.equalIn (9999+1) t (.bool p) (.bool q)).run P w=_
 rw[Op.equalIn,bK,aW ht]
 rfl
def ZN(t e:TypeId)(ht:P.underlying t=some (.slice e))(p:Option Addr)(l c l' c':Nat)(w:World):(Op.equal t (.slice p l c) (.slice none l' c')).run P w=.ok p.isNone w:=by
 show(Op.equalIn (9999+1) t (.slice p l c) (.slice none l' c')).run P w=_
 rw[Op.equalIn,bK,aW ht];cases p<;>rfl
def Vv(h:At n0 S0 M0 w0 st o a w g){t:TypeId}{X:Ax.X}(ho:o.op=.binOp op t x y u)(hx:fY P t x=some X)(hy:fY P u y=some Y)
  (hq:CF op (st.ev X) (st.ev Y) k):o.wp P a w (hO n0 S0 M0 w0 st o.dst k) Q':=by
 have ex:=h.ev_ hx;have ey:=h.ev_ hy;unfold CF T0 at hq
 split at hq
 ·next t1 p t2 q e1 e2=>
  rw[e1]at ex;rw[e2]at ey;have vx:=gU ex;have vy:=gU ey;obtain⟨v,hr,hk,h1⟩:=xr (P:=P) (t:=t) hq w;have hp:p.oneCell'=true∧p≠.nilIface:=by
   unfold zk at hq
   split at hq<;>simp_all [Value.oneCell']
  refine h.pure_ (v:=v) ?_ (g8 h1) hk;simp[execOp,ho,vx,vy,mK hp.1 hp.2,hr]
 exact hq.elim
def Vf(h:At n0 S0 M0 w0 st o a w g){neg:Bool}{X:Ax.X}(ho:o.op=.binOp op t x y u)(hx:fY P t x=some X)(hy:fY P u y=some Y)
  (ht:P.underlying t=some .bool) (hn:op=.eql∧neg=false∨op=.neq∧neg=true)
  (hq:C4 neg (st.ev X) (st.ev Y) k):o.wp P a w (hO n0 S0 M0 w0 st o.dst k) Q':=by
 have ex:=h.ev_ hx;have ey:=h.ev_ hy;unfold C4 at hq
 split at hq
 ·next t1 p t2 q e1 e2=>
  rw[e1]at ex;rw[e2]at ey;have vx:=gU ex;have vy:=gU ey;have eg:∀op,(eqGuard op t x y (.bool p) (.bool q)).run P w=.ok () w:=fun op=>mK rfl (by simp) w;refine h.pure_ (v:=.bool (if neg then !(p==q)else p==q)) ?_ (g8 rfl) hq;rcases hn with⟨rfl,rfl⟩|⟨rfl,rfl⟩<;>
  simp[execOp,ho,vx,vy,eg,binOp,Ua t ht]
 exact hq.elim
def pF{g:Gh}{t:Option Nat}(hr:fx h us g (.im t (.ls nn sz ds)) v):
  ∃p len cap,v=.slice p len cap∧len=ds.length∧(p=none→ds=[]∧cap=0∧nn≠some false)∧(p.isSome→nn≠some true):=by
 simp only[fx,f8,D.fits]at hr;obtain⟨F,h1,h2,_⟩:=hr;rw[fP h2]at h1;rcases h1 with⟨p,h1,rfl,_,h3,h4⟩|⟨b,off,cap,c,e,fr,F',h1,_,h3,_⟩
 ·have:v=.slice p 0 0:=by simpa using h1
  exact⟨p,0,0,this,rfl,fun hp=>⟨rfl,rfl,h3 hp⟩,h4⟩
 have:v=.slice (some ⟨b,off,none⟩) ds.length cap:=by simpa using h1
 exact⟨_,_,_,this,rfl,by simp,fun _=>h3⟩
def MM(h:At n0 S0 M0 w0 st o a w g){neg:Bool}{e:TypeId}{X:Ax.X}(ho:o.op=.binOp op t x y u)(hx:fY P t x=some X)(hy:fY P u y=some Y)
  (ht:P.underlying t=some (.slice e)) (hn:op=.eql∧neg=false∨op=.neq∧neg=true)
  (hq:vV neg (st.ev X) (st.ev Y) k):o.wp P a w (hO n0 S0 M0 w0 st o.dst k) Q':=by
 have ex:=h.ev_ hx;have ey:=h.ev_ hy;unfold vV at hq
 split at hq
 ·next t1 p z1 d1 t2 z2 e1 e2=>
  rw[e1]at ex;rw[e2]at ey;obtain⟨p1,l1,c1,v1,_,h2,h3⟩:=pF ex;obtain⟨p2,l2,c2,v2,_,h4,h5⟩:=pF ey;have q2:p2=none:=by
   cases p2 with
   |none=>rfl
   |some z=>exact absurd rfl (h5 rfl)
  have q1:p1.isNone=p:=by
   cases p1 with
   |none=>cases p with
    |true=>rfl
    |false=>exact absurd rfl (h2 rfl).2.2
   |some z=>cases p with
    |true=>exact absurd rfl (h3 rfl)
    |false=>rfl
  subst q2;subst q1;have eg:∀op,(eqGuard op t x y (.slice p1 l1 c1) (.slice none l2 c2)).run P w=.ok () w:=fun op=>mK rfl (by simp) w;refine h.pure_ (v:=.bool (if neg then !p1.isNone else p1.isNone)) ?_ (g8 rfl) hq;rcases hn with⟨rfl,rfl⟩|⟨rfl,rfl⟩<;>
  simp[execOp,ho,v1,v2,eg,binOp,ZN t e ht]
 exact hq.elim
def afU(h:At n0 S0 M0 w0 st o a w g){op:UnOp}{X:Ax.X}(ho:o.op=.unOp op t x)(hx:fY P u x=some X)
  (hq:Q1 op (st.ev X) k):o.wp P a w (hO n0 S0 M0 w0 st o.dst k) Q':=by
 have ex:=h.ev_ hx;unfold Q1 at hq
 split at hq
 ·next t1 b e1=>
  rw[e1]at ex;exact h.pure_ (v:=.bool (!b)) (by simp[execOp,ho,gU ex,Op.unary]) (g8 rfl) hq
 ·next t1 ki n e1=>
  rw[e1]at ex;exact h.pure_ (v:=.int ki (ki.wrap (-n))) (by simp[execOp,ho,gU ex,Op.unary,Op.intArith]) (g8 rfl) hq
 exact hq.elim
def acu(h:At n0 S0 M0 w0 st o a w g){s:TypeId}{kd ks:IntKind}{X:Ax.X}(ho:o.op=.convert s t x)(hx:fY P s x=some X)(hs:P.underlying s=some (.int ks))(ht:P.underlying t=some (.int kd))
  (hq:Dt kd (st.ev X) k):o.wp P a w (hO n0 S0 M0 w0 st o.dst k) Q':=by
 have ex:=h.ev_ hx;unfold Dt at hq
 split at hq
 ·next t1 ki n e1=>
  rw[e1]at ex;exact h.pure_ (v:=.int kd (kd.wrap n)) (by simp[execOp,ho,gU ex,convert,aW hs,aW ht,Conv.intToInt]) (g8 rfl) hq
 exact hq.elim
def aaL(h:At n0 S0 M0 w0 st o a w g){X:Ax.X}(ho:o.op=.extract x i)(hx:fY P t x=some X)
  (hq:wE (st.ev X) i k):o.wp P a w (hO n0 S0 M0 w0 st o.dst k) Q':=by
 have ex:=h.ev_ hx;unfold wE at hq
 split at hq
 ·next vs e1=>
  rw[e1]at ex;simp only[fx]at ex;obtain⟨xs,hv,hl⟩:=ex;obtain⟨hi,hk⟩:=hq;have:∀(vs:List AV)(xs:List Value)(i:Nat),fA w.heap st.us g vs xs→i<vs.length→∃v,xs[i]?=some v∧fx w.heap st.us g (vs.getD i .any) v:=by
   intro vs
   induction vs with
   |nil=>intro xs i _ hi;simp at hi
   |cons y vs ih=>
    intro xs i hl hi;simp only[fA]at hl;obtain⟨v,r,rfl,h1,h2⟩:=hl;cases i with
    |zero=>exact⟨v,rfl,h1⟩
    |succ i=>obtain⟨v',h3,h4⟩:=ih r i h2 (by simpa using hi);exact⟨v',by simpa using h3,by simpa using h4⟩
  obtain⟨v,h1,h2⟩:=this vs xs.toList i hl hi;refine h.pure_ (v:=v) ?_ h2 hk;have Uz:xs[i]?=some v:=by simpa using h1
  simp[execOp,ho,hv,Instr.extract,Uz]
 exact hq.elim
end Go.Ax
