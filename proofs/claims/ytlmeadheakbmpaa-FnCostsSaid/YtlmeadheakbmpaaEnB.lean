/- THE ENGINE, PART 2: a generator of conditions over the register code, and its soundness. No condition. -/
import Derived.Test.YtlmeadheakbmpaaEnA
set_option linter.all false
namespace Go.Ax
section
variable {P:Program}{st:St}{K:Exit→St→Prop}{n:Nat}{env:List (Nat×AV)}{us:List (Nat×U)}
variable {c:RC}{gp:St}
@[congr] def akO{st:St}(h:st=gp):sN P c st K=sN P c gp K:=by rw[h]
variable {l:List RO}
@[congr] def ahm{st:St}(h:st=gp):gR P l st K=gR P l gp K:=by rw[h]
@[congr] def aik{st:St}(h:st=gp):jZ P l K st=jZ P l K gp:=by rw[h]
@[congr] def kR_cg{st:St}(h:st=gp):kR P c K st=kR P c K gp:=by rw[h]
variable {e:Exit}{f:St→Prop}
@[congr] def aij{e':Exit}{st:St}(h:e=e')(h':st=gp):zt f K e st=zt f K e' gp:=by rw[h,h']
variable {i:Nat}
@[congr] def ai4{e':Exit}{st:St}(h:e=e')(h':st=gp):Iz i K e st=Iz i K e' gp:=by rw[h,h']
variable {v v':AV}
@[congr] def kq_cg{st:St}{d:Option Nat}{us us':List (Nat×U)}(h:st=gp)(hv:v=v')(hu:us=us'):kq f st d v us=kq f gp d v' us':=by rw[h,hv,hu]
variable {c':AV}{p q:Prop}
@[congr] def agQ{c:AV}(h:c=c'):wu c p q=wu c' p q:=by rw[h]
variable {b:Bool}
@[congr] def aiR{c:AV}(h:c=c'):qO c b p q=qO c' b p q:=by rw[h]
def Uz:sN P .skip st K=K .normal st:=rfl
def Z4{ops:List RO}:sN P (.jI b ops) st K=gR P ops st K:=rfl
@[congr] def aiv{l:List (List oT×RO)}{st:St}(h:st=gp):Lx P l st K=Lx P l gp K:=by rw[h]
@[congr] def kE_cg{l:List (List oT×RO)}{st:St}(h:st=gp):kE P l K e st=kE P l K e gp:=by rw[h]
@[congr] def afX{l:List oT}{st:St}(h:st=gp):oZ P l st=oZ P l gp:=by rw[h]
attribute [go_sem ↓] Uz Z4
variable {d:Nat}
@[congr] def kC_cg{st:St}{us:List (Nat×U)}(h:st=gp)(hv:v=v'):kC st d v us=kC gp d v' us:=by rw[h,hv]
variable {R:List RO}
def Tj{T:Tr}:sN P (.abT R T) st K=vcA P R T st (K .normal):=rfl
def Z9{k:St→Prop}:Lg P R (.br []) st k=k st:=by simp[Lg,Bu]
def ac8{k:St→Prop}{x:Nat×Tr}{l:List (Nat×Tr)}:Lg P R (.br (x::l)) st k=Bu P R (x::l) st k True:=by
 simp only[Lg,reduceCtorEq,dI]
def V7{k:St→Prop}:Bu P R [] st k q=q:=by simp only[Bu]
def Rt{k:St→Prop}{t:Tr}{l:List (Nat×Tr)}:Bu P R ((i,t)::l) st k q=(gR P [R.getD i default] st (fun _ s=>Lg P R t s k)∧Bu P R l st k q):=by simp only[Bu]
attribute [go_sem ↓] Tj Z9 ac8 V7 Rt
variable {T:Pj}
@[congr] def aiG{st:St}(h:st=gp):sB P T st K=sB P T gp K:=by rw[h]
@[congr] def kT_cg{st:St}(h:st=gp):kT P T K e st=kT P T K e gp:=by rw[h]
def Tv{N:List RO}:sN P (.KN N T) st K=gR P N st (kT P T K):=rfl
attribute [go_sem ↓] Tv
variable {E:List RO}
def WE{N:List PO}:sN P (.abU N E) st K=w8 P N st (kP P (AJ N) E K):=rfl
attribute [go_sem ↓] WE
variable {KK:St→Prop}
@[congr] def ajm{l:List PO}{st:St}(h:st=gp):w8 P l st KK=w8 P l gp KK:=by rw[h]
@[congr] def kP_cg{C:List Nat}{st:St}(h:st=gp):kP P C E K st=kP P C E K gp:=by rw[h]
def Wm:w8 P [] st KK=KK st:=rfl
def aed{r:RO}{l:List PO}:w8 P (.q r::l) st KK=gR P [r] st (fun _ s=>w8 P l s KK):=rfl
attribute [go_sem ↓] Wm aed
variable {sz:Nat}
def ada{b x y:Nat}{l:List PO}:w8 P (.a d sz b x y::l) st KK=apP (st.get x) (st.get y) (st.unit x) (st.unit y) d sz b x y st (fun s=>w8 P l s KK):=rfl
def agK{C:List Nat}:kP P C E K st=((zC C st.env=true∧uL C st.us=true)∧gR P E st K):=rfl
attribute [go_sem ↓] ada
attribute [go_sem] agK
variable {a':AV}{bytes:Nat}{u u':Option U}
@[congr] def aj5{a b b':AV}{v v':Option U}{x y:Nat}{k:St→Prop}(h1:a=a')(h2:b=b')(h3:u=u')(h4:v=v'):apP a b u v d sz bytes x y st k=apP a' b' u' v' d sz bytes x y st k:=by rw[h1,h2,h3,h4]
variable {es:List D}{gV:Nat}{nn:Option Bool}
def acR{x' y' x y yR:Nat}{d0:D}{k:St→Prop}:apP (.tr x') (.vb y' 1) (some (.own (.ls nn gV es))) (some (.bx yR [.im none d0])) d sz bytes x y st k=
 ((x'=x∧y'=y)∧(x≠y∧gV=sz∧yR=sz∧0<sz∧d0.flat=true∧d0.size=sz∧(es.length+1)*bytes≤140737488355328∧es.length+1≤gz∧st.fresh [(d,.own .jk)]=true)∧k (st.apJ d sz x y (es++[d0]))):=rfl
attribute [go_sem] acR
attribute [go_sem] St.apJ Ie AJ zC DI uL
def agE:kT P T K e st=sB P T st K:=rfl
attribute [go_sem ↓] agE
variable {cs:List oT}
def US:sB P (.br cs []) st K=(oZ P cs st∧K .normal st):=by simp[sB,tL]
def ZZ{x:RO×Pj}{l:List (RO×Pj)}:sB P (.br cs (x::l)) st K=(oZ P cs st∧tL P (x::l) st K True):=by
 simp only[sB,reduceCtorEq,dI]
def Ps:tL P [] st K q=q:=by simp only[tL]
def My{r:RO}{t:Pj}{l:List (RO×Pj)}:tL P ((r,t)::l) st K q=(gR P [r] st (kT P t K)∧tL P l st K q):=by simp only[tL];rfl
def ahg{l:List (List oT×RO)}:kE P l K e st=Lx P l st K:=rfl
def Wh:Lx P [] st K=K .normal st:=rfl
def Qe{r:RO}{l:List (List oT×RO)}:Lx P ((cs,r)::l) st K=(oZ P cs st∧gR P [r] st (kE P l K)):=rfl
def MP:oZ P [] st=True:=rfl
def IJ{c:oT}:oZ P (c::cs) st=(tP P c st∧oZ P cs st):=rfl
def ady:kC st d v []=(v=st.get d):=by simp[kC]
def aea{x:X}:tP P (.mv d x) st=kC st d (st.ev x) []:=rfl
attribute [go_sem ↓] US ZZ Ps My ahg Wh Qe MP IJ aea
attribute [go_sem] ady
variable {agg:Bool}
def adD{a:X}:tP P (.ld d agg sz a) st=FM (st.ev a) st.unit agg sz (kC st d):=rfl
attribute [go_sem ↓] adD
variable {off:Nat}
def adH{x:X}:tP P (.fa d off x) st=Jw (st.ev x) st.unit off (kC st d):=rfl
def afc{x i:X}:tP P (.ia d sz x i) st=Jg (st.ev x) (st.ev i) st.unit sz (kC st d):=rfl
def aaf{x:X}:tP P (.len d x) st=tv (st.ev x) st.unit (kC st d):=rfl
def Z7{x:X}:tP P (.nck d x) st=uj (st.ev x) (kC st d):=rfl
def YJ{x:X}:tP P (.ext d x i) st=BD (st.ev x) i (kC st d):=rfl
def abM{a b:RC}:sN P (.seq a b) st K=sN P a st (zt (kR P b K) K):=rfl
def Ux{x:X}{a b:RC}:sN P (.cond x a b) st K=wu (st.ev x) (sN P a st K) (sN P b st K):=rfl
def Z1:sN P (.gX i c) st K=sN P c st (Iz i K):=rfl
def Vp:sN P (.exit i) st K=K (.exit i) st:=rfl
def aa2:sN P .ret st K=K .ret st:=rfl
def ag0:kR P c K st=sN P c st K:=rfl
def Z6:jZ P l K st=gR P l st K:=rfl
def Kg:zt f K .normal st=f st:=rfl
def S4:zt f K .ret st=K .ret st:=rfl
def PS:zt f K (.exit i) st=K (.exit i) st:=rfl
def Jt:Iz i K .normal st=K .normal st:=rfl
def Te:Iz i K .ret st=K .ret st:=rfl
attribute [go_sem ↓] adH afc aaf Z7 YJ abM Ux Z1 Vp aa2 ag0 Z6 Kg S4 PS Jt Te
variable {j:Nat}
def P5:Iz i K (.exit j) st=if j=i then K .normal st else K (.exit j) st:=rfl
attribute [go_sem] P5
variable {t:Option Nat}
def Y5:wu (.im t (.sc (.bool b))) p q=((b=true→p)∧(b=false→q)):=rfl
def adX:qO (.lf []) b p q=q:=rfl
def acD{c:Bool}:qO (.im t (.sc (.bool c))) b p q=((c=b→p)∧(c=!b→q)):=rfl
def O8:gR P [] st K=K .normal st:=rfl
def Qx{t:Nat}{r:oT}:gR P (⟨some (t,b),r⟩::l) st K=qO (st.get t) b (gR P (⟨none,r⟩::l) st K) (gR P l (st.mu r.dst (.lf [])) K):=rfl
def acC{d:Option Nat}:kq f st d v []=f (st.mu d v):=rfl
def aa9{d:Option Nat}{x:Nat×U}{us:List (Nat×U)}:kq f st d v (x::us)=(st.fresh (x::us)=true∧f ((st.kc (x::us)).mu d v)):=rfl
def Re:St.mu ⟨n,env,us⟩ (some d) v=⟨n,(d,v)::env,us⟩:=rfl
def Rr:St.mu ⟨n,env,us⟩ none v=⟨n,env,us⟩:=rfl
def aa0:St.set ⟨n,env,us⟩ d v=⟨n,(d,v)::env,us⟩:=rfl
def Qo{vs:List (Nat×U)}:St.kc ⟨n,env,us⟩ vs=⟨n,env,vs++us⟩:=rfl
def ajw:St.ev ⟨n,env,us⟩ (.t i)=lk env i:=rfl
def akk{d:D}:st.ev (.c d)=rL d:=rfl
def aaE:St.get ⟨n,env,us⟩ i=lk env i:=rfl
def Wx:St.unit ⟨n,env,us⟩ i=lu us i:=rfl
def YZ{k t:Nat}{r:List (Nat×AV)}:lk ((k,v)::r) t=if k=t then v else lk r t:=rfl
def adr{t:Nat}:lk [] t=.any:=rfl
def abv{k t:Nat}{v:U}{r:List (Nat×U)}:lu ((k,v)::r) t=if k=t then some v else lu r t:=rfl
def ad3{t:Nat}:lu [] t=none:=rfl
attribute [go_sem] Y5 adX acD Qx acC aa9 Re Rr aa0 Qo ajw akk aaE Wx YZ adr abv ad3
attribute [go_sem ↓] O8
attribute [go_sem] jp gu pQ U.kill AV.refs AV.mr AV.soft AV.py AV.oq tO
def ZV{k:Nat}:St.del ⟨n,env,us⟩ k=⟨n,jp (AV.refs k) env,gu k (AV.refs k) us⟩:=rfl
attribute [go_sem] ZV
variable {el:Nat}
def UY{k:Nat}{u:U}:St.RY ⟨n,env,us⟩ k el u=⟨n,jp (AV.oq k el) env,(k,u)::gu k (AV.oq k el) us⟩:=rfl
def abi{k:Nat}{u:U}:St.ue ⟨n,env,us⟩ k u=⟨n,jp (AV.soft k) env,(k,u)::gu k (AV.soft k) us⟩:=rfl
def Zf{k:Nat}{u:U}:St.upr ⟨n,env,us⟩ k u=⟨n,jp (AV.refs k) env,(k,u)::gu k (AV.refs k) us⟩:=rfl
def Ph:st.fresh []=true:=rfl
def Ni{x:Nat×U}{r:List (Nat×U)}:St.fresh ⟨n,env,us⟩ (x::r)=(tO x.1 us&&tO x.1 r&&St.fresh ⟨n,env,us⟩ r):=rfl
def WM{x:X}:gR P (⟨none,.mv d x⟩::l) st K=kq (jZ P l K) st (some d) (st.ev x) []:=rfl
def MR{c a b:X}:gR P (⟨none,.pick d c a b⟩::l) st K=sw (st.ev c) (st.ev a) (st.ev b) (kq (jZ P l K) st (some d)):=rfl
def PY{x:X}:gR P (⟨none,.box d sz x⟩::l) st K=zr (st.ev x) st.unit d sz (kq (jZ P l K) st (some d)):=rfl
attribute [go_sem] UY abi Zf Ph Ni
attribute [go_sem ↓] WM MR PY
variable {z:D}
def Pt:gR P (⟨none,.zer d sz z⟩::l) st K=((0<sz∧z.size=sz∧z.gl=true)∧kq (jZ P l K) st (some d) (.pw d 0 0) [(d,.ar true (some false) sz [z])]):=rfl
def WC{g:Bool}{a:X}:gR P (⟨none,.ld d g sz a⟩::l) st K=FM (st.ev a) st.unit g sz (kq (jZ P l K) st (some d)):=rfl
def Pe{x:X}:gR P (⟨none,.nck d x⟩::l) st K=uj (st.ev x) (kq (jZ P l K) st (some d)):=rfl
attribute [go_sem ↓] Pt WC Pe
variable {y:X}
def Ri{op:BinOp}{x:X}:gR P (⟨none,.bin d op x y⟩::l) st K=Ks op (st.ev x) (st.ev y) (kq (jZ P l K) st (some d)):=rfl
attribute [go_sem ↓] Ri
variable {neg:Bool}
def Rx{x:X}:gR P (⟨none,.beq d neg x y⟩::l) st K=J4 neg (st.ev x) (st.ev y) (kq (jZ P l K) st (some d)):=rfl
def LQ{x:X}:gR P (⟨none,.snil d neg x y⟩::l) st K=A0 neg (st.ev x) (st.ev y) (kq (jZ P l K) st (some d)):=rfl
def RP{n:Nat}{x:X}:gR P (⟨none,.ceq d neg n x y⟩::l) st K=Kp neg (st.ev x) (st.ev y) n (kq (jZ P l K) st (some d)):=rfl
def UN{op:UnOp}{x:X}:gR P (⟨none,.un d op x⟩::l) st K=unK op (st.ev x) (kq (jZ P l K) st (some d)):=rfl
def PH{kd:IntKind}{x:X}:gR P (⟨none,.cvt d kd x⟩::l) st K=Km kd (st.ev x) (kq (jZ P l K) st (some d)):=rfl
def S1{q c:X}:gR P (⟨none,.mk d sz bytes z q c⟩::l) st K=mkK (st.ev q) (st.ev c) d sz bytes z (kq (jZ P l K) st (some d)):=rfl
attribute [go_sem ↓] Rx LQ RP UN PH S1
variable {hi lo:Option X}
def RL{x:X}:gR P (⟨none,.slc d sz x lo hi⟩::l) st K=Cl (st.ev x) st.ev st.unit sz lo hi (kq (jZ P l K) st (some d)):=rfl
def TZ{x:X}:gR P (⟨none,.fa d off x⟩::l) st K=Jw (st.ev x) st.unit off (kq (jZ P l K) st (some d)):=rfl
attribute [go_sem ↓] RL TZ
variable {xs:List X}
def Rq{f:Nat}:gR P (⟨none,.mkf d f xs⟩::l) st K=kq (jZ P l K) st (some d) (.cl f (xs.map st.ev)) []:=rfl
def Pq:gR P (⟨none,.bse d sz⟩::l) st K=(0<sz∧kq (jZ P l K) st (some d) (.z0 (some false) sz) []):=rfl
def Pw{x:X}:gR P (⟨none,.cvs d x⟩::l) st K=GP (st.ev x) st.unit (kq (jZ P l K) st (some d)):=rfl
attribute [go_sem ↓] Rq Pq Pw
variable {x x':AV}{k:KQ}{un:Nat→Option U}
@[congr] def aig(h0:x=x'):GP x un k=GP x' un k:=by rw[h0]
variable {len:Nat}
def Yf{id:Nat}:GP (.vb id len) un k=Kd (un id) len k:=rfl
@[congr] def aiN(h0:u=u'):Kd u len k=Kd u' len k:=by rw[h0]
attribute [go_sem] Yf
variable {items:List AV}
def ZT:Kd (some (.bx sz items)) len k=((sz=1∧len=items.length)∧MA (qr items) k):=rfl
@[congr] def aiz{q q':Option (List UInt8)}(h0:q=q'):MA q k=MA q' k:=by rw[h0]
def Qa{bs:List UInt8}:MA (some bs) k=k (.im none (.sc (.string ⟨bs.toArray⟩))) []:=rfl
def L8:qr []=some []:=rfl
def IE{n:Int}{r:List AV}:qr (.im t (.sc (.int .u8 n))::r)=(match qr r with|some bs=>some (UInt8.ofNat n.toNat::bs)|none=>none):=by
 simp only[qr,V9];cases qr r<;>rfl
def Rw{T E:Nat}:gR P (⟨none,.zsb d T E⟩::l) st K=(d<3000000000∧kq (jZ P l K) st (some d) (.ps d) [(d,.sb T E ⟨#[]⟩)]):=rfl
def QO{d:Option Nat}{x:X}:gR P (⟨none,.cpy d sz x y⟩::l) st K=Tm (st.ev x) (st.ev y) d sz st (jZ P l K):=rfl
attribute [go_sem] ZT Qa L8 IE
attribute [go_sem ↓] Rw QO
variable {g:Nat}
def Q1{d:Option Nat}:gR P (⟨none,.sH d g xs⟩::l) st K=Jb P d g (xs.map st.ev) st (jZ P l K):=rfl
attribute [go_sem ↓] Q1
variable {args:List AV}
@[congr] def ajg{acv:List AV}{d:Option Nat}{st:St}{k:St→Prop}(h2:args=acv)(h3:st=gp):Jb P d g args st k=Jb P d g acv gp k:=by rw[h2,h3]
def Vf{n k:Nat}:gU [] n k=none:=rfl
attribute [go_sem] Vf
variable {r:List Nat}
def P8{n k:Nat}:gU (i::r) n k=if i=k then some n else gU r (n+1) k:=rfl
attribute [go_sem] P8
variable {k1 k2:List Nat}
def Uf:re k1 k2=fun v=>Bk k1 v||AY k2 v:=rfl
def Px:Bk [] v=false:=rfl
def Md:Bk (i::r) v=(v.soft i||Bk r v):=rfl
def QI:AY [] v=false:=rfl
def MM:AY (i::r) v=(v.refs i||AY r v):=rfl
attribute [go_sem] Uf Px Md QI MM
variable {ids:List Nat}{us':List U}
def VR:pk ids k1 k2 us' []=[]:=rfl
def Qv{u:U}{r:List (Nat×U)}:pk ids k1 k2 us' ((i,u)::r)=if(gU k2 0 i).isSome=true then pk ids k1 k2 us' r else(i,ye (gU k1 0 i) ids k1 k2 us' u)::pk ids k1 k2 us' r:=rfl
def M9{u:U}:ye none ids k1 k2 us' u=u.kill (re k1 k2):=rfl
def LZ{q:Nat}{u:U}:ye (some q) ids k1 k2 us' u=Ac ids u (us'.getD q default):=rfl
@[congr] def agi{q q':Option Nat}{u:U}(h:q=q'):ye q ids k1 k2 us' u=ye q' ids k1 k2 us' u:=by rw[h]
attribute [go_sem] VR Qv M9 LZ
variable {ow:Bool}{jR:Option Bool}
def YN{ow':Bool}{es':List D}:Ac ids (.ar ow nn sz es) (.ar ow' jR gV es')=.ar ow' nn gV es':=rfl
def aal{iT:List AV}:Ac ids (.bx sz items) (.bx gV iT)=.bx gV (tV ids iT):=rfl
def Vw:tV ids []=[]:=by simp[tV]
attribute [go_sem] YN aal Vw
variable {vs:List AV}
def PP:tV ids (v::vs)=v.Ih ids::tV ids vs:=by simp[tV]
def afl{k:Nat}:AV.Ih ids (.pw k el j)=.pw (ids.getD (k-3000000000) 0) el j:=by simp[AV.Ih]
def ae2{k:Nat}:AV.Ih ids (.pb k j)=.pb (ids.getD (k-3000000000) 0) j:=by simp[AV.Ih]
def adQ{f:Nat}:AV.Ih ids (.cl f vs)=.cl f (tV ids vs):=by simp[AV.Ih]
def adR:AV.Ih ids (.sg vs)=.sg (tV ids vs):=by simp[AV.Ih]
def aeF{d:D}:AV.Ih ids (.im t d)=.im t d:=by simp[AV.Ih]
def Rj{x:Nat}:(x::r).getD 0 d=x:=rfl
def We{x y:Nat}:(x::y::r).getD 1 d=y:=rfl
def P2{x:U}{r:List U}:(x::r).getD 0 default=x:=rfl
def UJ{x y:U}{r:List U}:(x::y::r).getD 1 default=y:=rfl
def WA{x y z:U}{r:List U}:(x::y::z::r).getD 2 default=z:=rfl
def Up:St.abV ⟨n,env,us⟩ k1 k2 us'=⟨n,jp (re k1 k2) env,pk (k1++k2) k1 k2 us' us⟩:=rfl
def Va{m:Nat}{r:List U}:iv m b r []=True:=by cases r<;>rfl
def Ra{m:Nat}{u u':U}{r r':List U}:iv m b (u::r) (u'::r')=(ij m b u u'∧iv m b r r'):=rfl
def aad{m:Nat}{ow':Bool}{es':List D}:ij m b (.ar ow nn sz es) (.ar ow' jR gV es')=(jR=none∧gV=sz∧es'.length=es.length∧(b=true∨ow'=true∨fO es'=true)):=rfl
def YC{m:Nat}{iT:List AV}:ij m b (.bx sz items) (.bx gV iT)=(gV=sz∧iT.length=items.length∧mG m iT=true):=rfl
def T6{m:Nat}:mG m []=true:=by simp[mG]
def Rb{m:Nat}:mG m (v::vs)=(v.okW m&&mG m vs):=by simp[mG]
def ae8{m:Nat}{d:D}:AV.okW m (.im none d)=d.flat:=by simp[AV.okW]
def adI{m k:Nat}:AV.okW m (.pw k el j)=(decide (3000000000≤k)&&decide (k<3000000000+m)):=by simp[AV.okW]
def acF{m k:Nat}:AV.okW m (.pb k j)=(decide (3000000000≤k)&&decide (k<3000000000+m)):=by simp[AV.okW]
def aeQ{m f:Nat}:AV.okW m (.cl f vs)=mG m vs:=by simp[AV.okW]
def adc{m:Nat}:AV.okW m (.sg vs)=mG m vs:=by simp[AV.okW]
def Tt:ii ids []=true:=by simp[ii]
def QF{r:List AV}:ii ids (v::r)=(v.hZ ids&&ii ids r):=by simp[ii]
def TT:ir ids un []=true:=rfl
def Qp:ir ids un (i::r)=(U.hZ ids (un i)&&ir ids un r):=rfl
def aab:U.hZ ids (some (.ar ow nn sz es))=true:=rfl
def UA{d:D}:U.hZ ids (some (.own d))=true:=rfl
def Zi:U.hZ ids (some (.bx sz items))=ii ids items:=rfl
def aeE{d:D}:(AV.im none d).hZ ids=true:=by simp[AV.hZ]
def Zo{d:D}{t:Nat}:(AV.im (some t) d).hZ ids=d.gl:=by simp[AV.hZ]
def adK{id:Nat}:(AV.pw id el j).hZ ids=(gU ids 0 id).isSome:=by simp[AV.hZ]
def aeI{id:Nat}:(AV.sm id off len).hZ ids=(gU ids 0 id).isSome:=by simp[AV.hZ]
def aeH{f:Nat}:(AV.cl f vs).hZ ids=ii ids vs:=by simp[AV.hZ]
def adY:(AV.sg vs).hZ ids=ii ids vs:=by simp[AV.hZ]
def aey:(AV.tr i).hZ ids=(gU ids 0 i).isSome:=by simp[AV.hZ]
def aeO:(AV.pb i j).hZ ids=true:=by simp[AV.hZ]
def adf{id:Nat}:(AV.cw id el j sz agg).hZ ids=false:=by simp[AV.hZ]
def adJ{id:Nat}:(AV.vb id len).hZ ids=false:=by simp[AV.hZ]
def W1{x i:X}:gR P (⟨none,.ia d sz x i⟩::l) st K=Jg (st.ev x) (st.ev i) st.unit sz (kq (jZ P l K) st (some d)):=rfl
def PN{x:X}:gR P (⟨none,.len d x⟩::l) st K=tv (st.ev x) st.unit (kq (jZ P l K) st (some d)):=rfl
def LK{d:Option Nat}{f:Nat}{args:List X}:gR P (⟨none,.call d f args⟩::l) st K=pP P d f (args.map st.ev) st.unit (kq (jZ P l K) st d):=rfl
def M7{d:Option Nat}{x:X}{args:List X}:gR P (⟨none,.calv d x args⟩::l) st K=uu (st.ev x) P d (args.map st.ev) st.unit (kq (jZ P l K) st d):=rfl
def RD{x:X}:gR P (⟨none,.ext d x i⟩::l) st K=BD (st.ev x) i (kq (jZ P l K) st (some d)):=rfl
def Wt{ps:List (Nat×X)}:gR P (⟨none,.bs d sz z len ps⟩::l) st K=bsK (ps.map fun p=>(p.1,st.ev p.2)) st.unit d sz len (kq (jZ P l K) st (some d)):=rfl
def Ru{ps:List (Nat×Nat×X)}:gR P (⟨none,.bld d z ps⟩::l) st K=GN (ps.map fun p=>(p.1,p.2.1,st.ev p.2.2)) st.unit z (kq (jZ P l K) st (some d)):=rfl
def P6{x:X}:gR P (⟨none,.app d sz bytes x y⟩::l) st K=ra st sz (st.ev y) (IN x d sz bytes (jZ P l K)):=rfl
def Ry{x:X}:gR P (⟨none,.Lk d sz bytes x y⟩::l) st K=Vh st sz (st.ev y) (ME x d sz bytes (jZ P l K)):=rfl
def RB{a x:X}:gR P (⟨none,.wO sz a x⟩::l) st K=zF (st.ev a) (st.ev x) st sz (jZ P l K):=rfl
def P7{d:Option Nat}:gR P (⟨none,.Ll d g xs⟩::l) st K=Kn P d g xs st (jZ P l K):=rfl
def RW{ps:List (Nat×X)}:gR P (⟨none,.W2 d sz len ps⟩::l) st K=PV (ps.map fun p=>(p.1,st.ev p.2)) st d sz len (jZ P l K):=rfl
attribute [go_sem] PP afl ae2 adQ adR aeF Rj We P2 UJ WA Up Va Ra aad YC T6 Rb ae8 adI acF aeQ adc Tt QF TT Qp aab UA Zi aeE Zo adK aeI aeH adY aey aeO adf adJ
attribute [go_sem ↓] W1 PN LK M7 RD Wt Ru P6 Ry RB P7 RW
variable {ps:List (Nat×AV)}
@[congr] def ajl{ps':List (Nat×AV)}{st:St}(h:ps=ps')(h':st=gp):PV ps st d sz len f=PV ps' gp d sz len f:=by rw[h,h']
def YM{st:St}:PV ps st d sz len f=((ps.map (·.1)=List.range len∧0<sz∧len*sz≤16777216)∧tZ st (ps.map (·.2)) (T5 d sz len f)):=rfl
attribute [go_sem] YM
variable {ds lQ:List D}
@[congr] def aiw{st:St}(h:ds=lQ)(h':st=gp):T5 d sz len f ds st=T5 d sz len f lQ gp:=by rw[h,h']
def Yz:T5 d sz len f ds gp=(((∀e∈ds,e.size=sz)∧gp.fresh [(d,.own .jk)]=true)∧f ((gp.kc [(d,.ar false (some false) sz ds)]).set d (.sm d 0 len))):=rfl
@[congr] def aj9{st:St}{k:List D→St→Prop}(h:st=gp)(h':v=v'):Vh st sz v k=Vh gp sz v' k:=by rw[h,h']
@[congr] def ajG{st:St}{k:List D→St→Prop}(h:u=u'):shV u i len sz st k=shV u' i len sz st k:=by rw[h]
@[congr] def aiF{st:St}{k:List D→St→Prop}(h:u=u'):Hg u off len sz st k=Hg u' off len sz st k:=by rw[h]
@[congr] def ajb{x:X}{st:St}(h2:ds=lQ)(h3:st=gp):ME x d sz bytes f ds st=ME x d sz bytes f lQ gp:=by rw[h2,h3]
@[congr] def aiA{st:St}(h1:x=x')(h2:ds=lQ)(h3:st=gp):O6 x d sz bytes f ds st=O6 x' d sz bytes f lQ gp:=by rw[h1,h2,h3]
@[congr] def aiL{id:Nat}{st:St}(h1:u=u')(h2:ds=lQ)(h3:st=gp):Pr u id off len ds st d sz bytes f=Pr u' id off len lQ gp d sz bytes f:=by rw[h1,h2,h3]
@[congr] def ajh{a:AV}{st:St}(h0:a=a')(h1:x=x'):zF a x st sz f=zF a' x' st sz f:=by rw[h0,h1]
@[congr] def aiM{d:Option Nat}{st:St}{k:St→Prop}(h:st=gp):Kn P d g xs st k=Kn P d g xs gp k:=by rw[h]
def aeo{st:St}{k:List D→St→Prop}:Vh st sz (.vb i len) k=shV (st.unit i) i len sz st k:=rfl
def ac7{st:St}{k:List D→St→Prop}:Vh st sz (.im none (.ls nn gV ds)) k=(gV=sz∧k ds st):=rfl
def acW{st:St}{k:List D→St→Prop}:Vh st sz (.sm i off len) k=Hg (st.unit i) off len sz st k:=rfl
def ade{st:St}{k:List D→St→Prop}:Vh st sz (.ss i off len) k=Hg (st.unit i) off len sz st k:=rfl
def ae4{yR:Nat}{st:St}{k:List D→St→Prop}:shV (some (.bx yR items)) i len sz st k=((yR=sz∧len=items.length)∧tZ (st.del i) items k):=rfl
attribute [go_sem] Yz aeo ac7 acW ade ae4
variable {usz:Nat}
def Yw{st:St}{k:List D→St→Prop}:Hg (some (.ar false nn usz es)) off len sz st k=(usz=sz∧k ((es.drop off).take len) st):=rfl
def aai{x:X}:ME x d sz bytes f ds gp=O6 (gp.ev x) d sz bytes f ds gp:=rfl
def abL{id:Nat}:O6 (.sm id off len) d sz bytes f ds gp=Pr (gp.unit id) id off len ds gp d sz bytes f:=rfl
def X8{id:Nat}:Pr (some (.ar ow nn usz es)) id off len ds gp d sz bytes f=
  ((usz = sz ∧ 0 < sz ∧ off = 0 ∧ DY len es ∧ (ow = false ∨ wi len es = []) ∧ (len + ds.length) * bytes ≤ 140737488355328 ∧ len + ds.length ≤ gz ∧ (∀ e ∈ ds, e.size = sz)) ∧
    f ((gp.upr id (.ar false (gT nn ds) sz (wi len es++ds))).set d (.sm id 0 (len+ds.length)))):=rfl
def aaX{id:Nat}{st:St}:zF (.pw id el j) (.sm i off len) st sz f=stN (st.unit id) id el j sz (.sm i off len) st f:=rfl
def Yd{id:Nat}{st:St}:zF (.pb id j) (.sm i off len) st sz f=stB (st.unit id) id j sz (.sm i off len) st f:=rfl
def aaV{a:AV}{e:D}{st:St}:zF a (.im t e) st sz f=Li a (.im t e) st sz f:=rfl
def abw{a:AV}{st:St}:zF a (.tr i) st sz f=Li a (.tr i) st sz f:=rfl
def abr{a:AV}{st:St}:zF a (.sg vs) st sz f=Li a (.sg vs) st sz f:=rfl
attribute [go_sem] Yw aai abL X8 aaX Yd aaV abw abr
variable {cg:Bool}{cz:Nat}
def aa6{a:AV}{st:St}:zF a (.cw i el j cz cg) st sz f=Li a (.cw i el j cz cg) st sz f:=rfl
def ZW{a:AV}{st:St}:zF a (.pw i el j) st sz f=Li a (.pw i el j) st sz f:=rfl
def acS:AN (.sm i off len) usz j sz false k=if j=0∧sz=usz then k (.sm i off len) []else False:=by simp[AN,jW,AV.lV,So]
def Ze{k:AV→Prop}:JT (.sm i off len) x usz j sz k=if j=0∧sz=usz then k x else False:=rfl
def Td{k:AV→Prop}:JT .any x usz j sz k=if j=0∧sz=usz then k x else False:=rfl
def zY:gT (some false) ds=some false:=by cases ds<;>rfl
attribute [go_sem] aa6 ZW acS Ze Td zY
attribute [go_sem] nq
@[congr] def ajP{st:St}{k:D→St→Prop}(h:st=gp)(h':v=v'):wS st v k=wS gp v' k:=by rw[h,h']
@[congr] def aiX{st:St}{v v':List AV}{k:List D→St→Prop}(h:st=gp)(h':v=v'):tZ st v k=tZ gp v' k:=by rw[h,h']
@[congr] def aix{st:St}{k:D→St→Prop}(h:u=u'):QM u i off len st k=QM u' i off len st k:=by rw[h]
variable {d':D}
@[congr] def ak9{k:D→St→Prop}{o o':Bool}{d:D}{st:St}(h1:o=o')(h2:d=d')(h3:st=gp):XK k o d st=XK k o' d' gp:=by rw[h1,h2,h3]
@[congr] def ak1{k:D→St→Prop}{d d':List D}{st:St}(h2:d=d')(h3:st=gp):tkG k d st=tkG k d' gp:=by rw[h2,h3]
@[congr] def ak3{d:D}{k:List D→St→Prop}{st:St}(h1:d=d')(h2:ds=lQ)(h3:st=gp):tkD d k ds st=tkD d' k lQ gp:=by rw[h1,h2,h3]
variable {BG:List AV}
@[congr] def ajQ{k:List D→St→Prop}{d:D}{st:St}(h1:vs=BG)(h2:d=d')(h3:st=gp):tkC vs k d st=tkC BG k d' gp:=by rw[h1,h2,h3]
def afe{st:St}{k:D→St→Prop}:wS st (.sm i off len) k=QM (st.unit i) i off len st k:=by simp only[wS]
def aef{st:St}{k:D→St→Prop}:wS st (.sg vs) k=tZ st vs (tkG k):=by simp only[wS]
def aem{st:St}{d:D}{k:D→St→Prop}:wS st (.im t d) k=io st (.im t d) (XK k):=by simp only[wS]
def aeC{st:St}{k:D→St→Prop}:wS st (.tr i) k=io st (.tr i) (XK k):=by simp only[wS]
def adv{st:St}{k:D→St→Prop}:wS st (.cw i el j sz agg) k=io st (.cw i el j sz agg) (XK k):=by simp only[wS]
def UK{st:St}{k:List D→St→Prop}:tZ st [] k=k [] st:=by simp only[tZ]
def Q8{st:St}{k:List D→St→Prop}:tZ st (v::vs) k=wS st v (tkC vs k):=by simp only[tZ];rfl
def Z2{st:St}{k:D→St→Prop}:QM (some (.ar ow nn sz es)) i off len st k=((off=0∧len=es.length)∧k (.ls nn sz es) (st.del i)):=rfl
def ad5{k:D→St→Prop}{o:Bool}{d:D}{st:St}:XK k o d st=k d st:=rfl
def aer{k:D→St→Prop}{st:St}:tkG k ds st=k (.ag (ds.map D.cells).flatten) st:=rfl
def aeP{d:D}{k:List D→St→Prop}{st:St}:tkD d k ds st=k (d::ds) st:=rfl
def aeV{k:List D→St→Prop}{d:D}{st:St}:tkC vs k d st=tZ st vs (tkD d k):=rfl
def WV{a x:X}:gR P (⟨none,.st sz a x⟩::l) st K=Li (st.ev a) (st.ev x) st sz (jZ P l K):=rfl
@[congr] def ahs{c:AV}{a:AV}{b b':AV}(h0:c=c')(h1:a=a')(h2:b=b'):sw c a b k=sw c' a' b' k:=by rw[h0,h1,h2]
@[congr] def ai0(h0:x=x'):zr x un d sz k=zr x' un d sz k:=by rw[h0]
@[congr] def akY{id:Nat}(h0:u=u'):ldW u id el j agg sz k=ldW u' id el j agg sz k:=by rw[h0]
@[congr] def ala{a:AV}(h0:a=a'):FM a un agg sz k=FM a' un agg sz k:=by rw[h0]
@[congr] def aiW(h0:x=x'):uj x k=uj x' k:=by rw[h0]
attribute [go_sem] afe aef aem aeC adv UK Q8 Z2 ad5 aer aeP aeV
attribute [go_sem ↓] WV
variable {y':AV}
@[congr] def ajd{op:BinOp}{y:AV}(h0:x=x')(h1:y=y'):Ks op x y k=Ks op x' y' k:=by rw[h0,h1]
@[congr] def aiI{y:AV}(h0:x=x')(h1:y=y'):J4 neg x y k=J4 neg x' y' k:=by rw[h0,h1]
@[congr] def aha{y:AV}(h0:x=x')(h1:y=y'):A0 neg x y k=A0 neg x' y' k:=by rw[h0,h1]
@[congr] def aiE{y:AV}{n:Nat}(h0:x=x')(h1:y=y'):Kp neg x y n k=Kp neg x' y' n k:=by rw[h0,h1]
def ae9{u:Option Nat}{p q:Bool}:J4 neg (.im t (.sc (.bool p))) (.im u (.sc (.bool q))) k=k (.im none (.sc (.bool (if neg then !(p==q)else p==q)))) []:=rfl
def aaP{u:Option Nat}{p:Bool}{z1 z2:Nat}:A0 neg (.im t (.ls (some p) z1 ds)) (.im u (.ls (some true) z2 [])) k=k (.im none (.sc (.bool (if neg then !p else p)))) []:=rfl
def afd{u:Option Nat}{n:Nat}:Kp neg (.im t (.ag ds)) (.im u (.ag es)) n k=(ds.length=n∧yP ds es fun r=>k (.im none (.sc (.bool (if neg then !r else r)))) []):=rfl
def VT{f:Bool→Prop}:yP [] [] f=f true:=rfl
attribute [go_sem] ae9 aaP afd VT
variable {m:Int}{a:IntKind}
def O5{b:IntKind}{n:Int}{f:Bool→Prop}:yP (.sc (.int a m)::ds) (.sc (.int b n)::es) f=(a=b∧yP ds es fun r=>f ((m==n)&&r)):=rfl
@[congr] def ajV{op:UnOp}(h0:x=x'):unK op x k=unK op x' k:=by rw[h0]
@[congr] def aip{kd:IntKind}(h0:x=x'):Km kd x k=Km kd x' k:=by rw[h0]
attribute [go_sem] O5
variable {l':AV}
@[congr] def ajn{l:AV}{c:AV}(h0:l=l')(h1:c=c'):mkK l c d sz bytes z k=mkK l' c' d sz bytes z k:=by rw[h0,h1]
variable {h h':AV}
@[congr] def aji{l:AV}(h0:l=l')(h1:h=h'):MN t nn sz ds l h k=MN t nn sz ds l' h' k:=by rw[h0,h1]
variable {ev:X→AV}
@[congr] def air(h0:x=x'):Cl x ev un sz lo hi k=Cl x' ev un sz lo hi k:=by rw[h0]
@[congr] def ajI{id:Nat}(h0:u=u'):Zk u id el j off k=Zk u' id el j off k:=by rw[h0]
@[congr] def akU(h0:x=x'):Jw x un off k=Jw x' un off k:=by rw[h0]
@[congr] def aka{q q':Option (Option Nat×D)}{n:Int}(h0:q=q'):Sr q sz n k=Sr q' sz n k:=by rw[h0]
@[congr] def ajX{id:Nat}{p:Nat}(h0:u=u'):Mb u id sz p k=Mb u' id sz p k:=by rw[h0]
@[congr] def ajF{i i':AV}(h0:x=x')(h1:i=i'):Jg x i un sz k=Jg x' i' un sz k:=by rw[h0,h1]
@[congr] def ain{q q':Option (Option Nat×D)}(h0:q=q'):Bt q k=Bt q' k:=by rw[h0]
@[congr] def aiQ(h0:x=x'):tv x un k=tv x' un k:=by rw[h0]
variable {Q:Program}
@[congr] def ahu{d:Option Nat}(h0:x=x'):uu x Q d args un k=uu x' Q d args un k:=by rw[h0]
@[congr] def ai3(h0:x=x'):BD x i k=BD x' i k:=by rw[h0]
@[congr] def akN{ps':List (Nat×AV)}(h0:ps=ps'):bsK ps un d sz len k=bsK ps' un d sz len k:=by rw[h0]
@[congr] def ai9{ps ps':List (Nat×Nat×AV)}(h0:ps=ps'):GN ps un z k=GN ps' un z k:=by rw[h0]
@[congr] def af2{st:St}{k:KT}(h0:u=u'):xz u i st k=xz u' i st k:=by rw[h0]
@[congr] def afZ{st:St}{k:KT}(h0:u=u'):AA u i off len st k=AA u' i off len st k:=by rw[h0]
@[congr] def ahC{st:St}{k:KL}(h0:u=u'):C0 u i len sz st k=C0 u' i len sz st k:=by rw[h0]
@[congr] def agc{q q':Option D}{st:St}{k:KL}(h0:q=q'):wt q sz st k=wt q' sz st k:=by rw[h0]
variable {own:Bool}
@[congr] def ajY{id:Nat}{d:D}(h0:u=u'):stU u id el j sz own d gp f=stU u' id el j sz own d gp f:=by rw[h0]
@[congr] def akF{a:AV}{st:St}(h0:a=a')(h1:x=x'):Li a x st sz f=Li a' x' st sz f:=by rw[h0,h1]
@[congr] def aiJ{id:Nat}(h0:u=u'):QS u id off len own ds gp d sz bytes f=QS u' id off len own ds gp d sz bytes f:=by rw[h0]
@[congr] def aje(h0:x=x'):C6 x own ds gp d sz bytes f=C6 x' own ds gp d sz bytes f:=by rw[h0]
def aat{y:AV}:sw (.im t (.sc (.bool b))) x y k=((b=true→k x [])∧(b=false→k y [])):=rfl
def aao{e:D}:zr (.im none e) un d sz k=((0<sz∧e.size=sz)∧k (.pw d 0 0) [(d,.ar false (some false) sz [e])]):=rfl
def acL{id:Nat}:ldW (some (.ar ow nn usz es)) id el j agg sz k=((j+sz≤usz∧(agg=true→(D.at es el).fX=true))∧k (TN ow id el j sz agg (D.sub (D.at es el) j sz agg)) []):=rfl
def ZQ:zr (.sg vs) un d sz k=((d<3000000000∧0<sz∧ig un sz (.sg (kz vs))=true)∧k (.pb d 0) [(d,.bx sz [.sg (kz vs)])]):=rfl
def abH{f:Nat}:zr (.cl f vs) un d sz k=((d<3000000000∧0<sz∧ig un sz (.cl f vs)=true)∧k (.pb d 0) [(d,.bx sz [.cl f vs])]):=rfl
def Ym:zr (.pw i el j) un d sz k=((d<3000000000∧0<sz∧ig un sz (.pw i el j)=true)∧k (.pb d 0) [(d,.bx sz [.pw i el j])]):=rfl
def ZD:zr (.tr i) un d sz k=((d<3000000000∧0<sz∧ig un sz (.tr i)=true)∧k (.pb d 0) [(d,.bx sz [.tr i])]):=rfl
def adk{id:Nat}:FM (.pb id j) un agg sz k=ldB (un id) j sz agg k:=rfl
@[congr] def ak0(h:u=u'):ldB u j sz agg k=ldB u' j sz agg k:=by rw[h]
def acZ:ldB (some (.bx usz [x])) j sz agg k=((0<usz∧(agg=false→sz=1))∧AN x usz j sz agg k):=rfl
def ac5:AN (.sg vs) usz j sz true k=if j=0∧sz=usz then k (.sg vs) []else So (.sg vs) j sz true k:=by simp[AN,jW]
def abF:AN (.sg vs) usz j sz false k=So (.sg vs) j sz false k:=by simp[AN,jW,AV.lV]
def aeM{f:Nat}:AN (.cl f vs) usz j sz false k=if j=0∧sz=usz then k (.cl f vs) []else False:=by simp[AN,jW,AV.lV,So]
def aek{j0:Nat}:AN (.pw i el j0) usz j sz false k=if j=0∧sz=usz then k (.pw i el j0) []else False:=by simp[AN,jW,AV.lV,So]
def abD:So (.sg vs) j sz true k=((vs.all AV.lV=true∧j+sz≤vs.length)∧k (QN ((vs.drop j).take sz)) []):=by simp[So]
def ZH:So (.sg vs) j sz false k=((vs.all AV.lV=true∧j+sz≤vs.length)∧k (vs.getD j .any) []):=by simp[So]
def YO{id:Nat}:uj (.pb id j) k=k (.pb id j) []:=rfl
def afq{id:Nat}:Jw (.pb id j) un off k=k (.pb id (j+off)) []:=rfl
def ae5{id:Nat}{st:St}:Li (.ps id) x st sz f=stS (st.unit id) id sz x st f:=rfl
@[congr] def ajD{id:Nat}{st:St}(h0:u=u')(h1:x=x')(h2:st=gp):stS u id sz x st f=stS u' id sz x' gp f:=by rw[h0,h1,h2]
def adB{T E:Nat}{s:ByteArray}{id:Nat}{st:St}:stS (some (.sb T E s)) id sz x st f=((sz=2∧Ho x=true)∧f (st.ue id (.sb T E ⟨#[]⟩))):=rfl
def PZ{t':Option Nat}{q:Nat}:Ho (.sg [.im t (.sc (.pointer none)),.im t' (.ls (some true) q [])])=true:=rfl
def afo{id:Nat}{st:St}:Li (.pb id j) x st sz f=stB (st.unit id) id j sz x st f:=rfl
@[congr] def ale{id:Nat}{st:St}(h:u=u'):stB u id j sz x st f=stB u' id j sz x st f:=by rw[h]
def adn{y:AV}{id:Nat}{st:St}:stB (some (.bx usz [y])) id j sz x st f=((0<usz∧0<sz∧ig st.unit sz x=true∧qV x=true∧x.refs id=false∧y.refs id=false)∧JT y x usz j sz fun z=>f (st.ue id (.bx usz [z]))):=rfl
def ZK{k:AV→Prop}:JT (.sg vs) x usz j sz k=if j=0∧sz=usz then k x else((vs.all AV.lV=true∧j<vs.length∧sz=1∧x.lV=true)∧k (.sg (vs.set j x))):=rfl
@[congr] def ajr{id:Nat}{st:St}(h:u=u'):stN u id el j sz x st f=stN u' id el j sz x st f:=by rw[h]
def adV{d:D}{id:Nat}{st:St}:stN (some (.ar ow nn usz [d])) id el j sz x st f=(((nn=none∨id<3000000000)∧0<sz∧el=0∧j=0∧sz=usz∧d.gl=true∧ig st.unit sz (lx x)=true∧qV (lx x)=true∧(lx x).refs id=false)∧f (st.cvt id (.bx sz [lx x]))):=rfl
def aac{id:Nat}{u:U}:St.cvt ⟨n,env,us⟩ id u=⟨n,Iy id env,(id,u)::gu id (AV.refs id) us⟩:=rfl
attribute [go_sem] aat aao acL ZQ abH Ym ZD adk acZ ac5 abF aeM aek abD ZH YO afq ae5 adB PZ afo adn ZK adV aac
attribute [go_sem] Iy
def YA{id:Nat}:zO id (.pw i el j)=if i=id then(if el=0 then .pb id j else .any)else .pw i el j:=rfl
def aaj{id:Nat}{d:D}:zO id (.im t d)=if(t==some id)=true then .any else .im t d:=rfl
def aaO{id:Nat}:zO id (.tr i)=if(i==id)=true then .any else .tr i:=rfl
def aaR{id:Nat}:zO id (.cw i el j sz agg)=if(i==id)=true then .any else .cw i el j sz agg:=rfl
def Y7{id:Nat}:zO id (.sm i off len)=if(i==id)=true then .any else .sm i off len:=rfl
def abm{id:Nat}:zO id (.vb i len)=if(i==id)=true then .any else .vb i len:=rfl
def ZU{id:Nat}:zO id (.pb i j)=if(i==id)=true then .any else .pb i j:=rfl
def UX{id:Nat}:zO id .any=.any:=rfl
def YL{id f:Nat}:zO id (.cl f vs)=if AV.mr id vs=true then .any else .cl f vs:=rfl
def Yn{id:Nat}:zO id (.sg vs)=if AV.mr id vs=true then .any else .sg vs:=rfl
def V8{id:Nat}:zO id (.lf vs)=if AV.mr id vs=true then .any else .lf vs:=rfl
attribute [go_sem] YA aaj aaO aaR Y7 abm ZU UX YL Yn V8
attribute [go_sem] AV.isRef AV.isRef.HS AV.lV kz lx qV
def ad9{d:D}:FM (.im t (.pt d j)) un agg sz k=((j+sz≤d.size∧(agg=true→d.fX=true))∧k (.im t (D.sub d j sz agg)) []):=rfl
attribute [go_sem] ad9
variable {o:Nat}
def ae1{b:Nat}{d:D}:FM (.im t (.lc b o (.pt d j))) un agg sz k=((j+sz≤d.size∧(agg=true→d.fX=true))∧k (.im t (D.sub d j sz agg)) []):=rfl
def aeJ{id:Nat}:FM (.pw id el j) un agg sz k=ldW (un id) id el j agg sz k:=rfl
def YX{d:D}:uj (.im t (.pt d j)) k=k (.im t (.pt d j)) []:=rfl
def aaM{b:Nat}{d:D}:uj (.im t (.lc b o (.pt d j))) k=k (.im t (.lc b o (.pt d j))) []:=rfl
def abE{p:Addr}:uj (.im t (.sc (.pointer (some p)))) k=k (.im t (.sc (.pointer (some p)))) []:=rfl
def abB{id:Nat}:uj (.pw id el j) k=k (.pw id el j) []:=rfl
def abn:unK .not (.im t (.sc (.bool b))) k=k (.im none (.sc (.bool (!b)))) []:=rfl
def Zr:unK .neg (.im t (.sc (.int a m))) k=k (.im none (.sc (.int a (a.wrap (-m))))) []:=rfl
def ad0{b:IntKind}:Km b (.im t (.sc (.int a m))) k=k (.im none (.sc (.int b (b.wrap m)))) []:=rfl
def agL{u:Option Nat}{b:IntKind}{q:Int}:mkK (.im t (.sc (.int a m))) (.im u (.sc (.int b q))) d sz bytes z k=
  ((0≤m∧m≤q∧bytes*q≤140737488355328∧q≤140737488355328∧0<sz∧z.size=sz∧z.gl=true)∧k (.sm d 0 m.toNat) [(d,.ar true (some false) sz (List.replicate m.toNat z))]):=rfl
def aeg{t0:Option Nat}{u:Option Nat}{b:IntKind}{l h:Int}:MN t0 nn sz ds (.im t (.sc (.int a l))) (.im u (.sc (.int b h))) k=((0≤l∧l≤h∧h≤ds.length)∧k (.im t0 (.ls nn sz ((ds.take h.toNat).drop l.toNat))) []):=rfl
def aa5:Cl (.im t (.ls nn gV ds)) ev un sz lo hi k=
  (sz=gV∧MN t nn sz ds ((lo.map ev).getD (.im none (.sc (.int .i64 0)))) ((hi.map ev).getD (.im none (.sc (.int .i64 ds.length)))) k):=rfl
def adN{id:Nat}:Zk (some (.ar ow nn usz es)) id el j off k=(j+off<usz∧k (.pw id el (j+off)) []):=rfl
def acX{d:D}:Jw (.im t (.pt d j)) un off k=(j+off<d.size∧k (.im t (.pt d (j+off))) []):=rfl
def acH{b:Nat}{d:D}:Jw (.im t (.lc b o (.pt d j))) un off k=(j+off<d.size∧k (.im t (.lc b (o+off) (.pt d (j+off)))) []):=rfl
def ac2{id:Nat}:Jw (.pw id el j) un off k=Zk (un id) id el j off k:=rfl
def adW:Sr (some (t,.ls nn gV ds)) sz m k=((sz=gV∧0<sz∧0≤m∧m<ds.length)∧k (.im t (.pt (D.at ds m.toNat) 0)) []):=rfl
def aew{id p:Nat}:Mb (some (.ar ow nn usz es)) id sz p k=((sz=usz∧0<sz)∧k (.pw id p 0) []):=rfl
def aeR{id:Nat}:Jg (.sm id off len) (.im t (.sc (.int a m))) un sz k=((0≤m∧m<len)∧Mb (un id) id sz (off+m.toNat) k):=rfl
def aeZ{b:Nat}:Sr (some (t,.lc b o (.ls nn gV ds))) sz m k=((sz=gV∧0<sz∧0≤m∧m<ds.length)∧k (.im t (.lc b (o+m.toNat*sz) (.pt (D.at ds m.toNat) 0))) []):=rfl
def aeX{u:Option Nat}{d:D}:Jg (.im u d) (.im t (.sc (.int a m))) un sz k=Sr (some (u,d)) sz m k:=rfl
def acO:Jg (.tr i) (.im t (.sc (.int a m))) un sz k=Sr (AV.den un (.tr i)) sz m k:=rfl
def acM:Jg (.cw i el j 1 false) (.im t (.sc (.int a m))) un sz k=iaC (un i) i el j sz m k:=rfl
def adx{id:Nat}:Jg (.ss id off len) (.im t (.sc (.int a m))) un sz k=((0≤m∧m<len)∧Mb (un id) id sz (off+m.toNat) k):=rfl
attribute [go_sem] ae1 aeJ YX aaM abE abB abn Zr ad0 agL aeg aa5 adN acX acH ac2 adW aew aeR aeZ aeX acO acM adx
variable {iE:Nat}
def adb:Jg (.qs i el j iE off len) (.im t (.sc (.int a m))) un sz k=Sr (AV.den un (.qs i el j iE off len)) sz m k:=rfl
@[congr] def ajK{id:Nat}{n:Int}(h0:u=u'):iaC u id el j sz n k=iaC u' id el j sz n k:=by rw[h0]
def adZ{id:Nat}{n:Int}:iaC (some (.ar true nn usz es)) id el j sz n k=iaI id el j sz n (D.sub (D.at es el) j 1 false) k:=rfl
@[congr] def ajR{id:Nat}{n:Int}{d:D}(h0:d=d'):iaI id el j sz n d k=iaI id el j sz n d' k:=by rw[h0]
def acU{id:Nat}{n:Int}:iaI id el j sz n (.ls nn gV ds) k=((sz=gV∧0<sz∧0≤n∧n<ds.length)∧k (.pq id el j sz n.toNat 0) []):=rfl
attribute [go_sem] adb adZ acU
variable {jj j':Nat}
def aeA{id:Nat}:Jw (.pq id el j iE jj j') un off k=(j'+off<iE∧k (.pq id el j iE jj (j'+off)) []):=rfl
def ZJ{id:Nat}:uj (.pq id el j iE jj j') k=k (.pq id el j iE jj j') []:=rfl
def adM{id:Nat}:FM (.pq id el j iE jj j') un agg sz k=ldQ (un id) id el j iE jj j' agg sz k:=rfl
@[congr] def ajZ{id:Nat}(h0:u=u'):ldQ u id el j iE jj j' agg sz k=ldQ u' id el j iE jj j' agg sz k:=by rw[h0]
def aeq{id:Nat}:ldQ (some (.ar true nn usz es)) id el j iE jj j' agg sz k=Ma iE jj j' sz agg id (D.sub (D.at es el) j 1 false) k:=rfl
@[congr] def aiC{id:Nat}{d:D}(h0:d=d'):Ma iE jj j' sz agg id d k=Ma iE jj j' sz agg id d' k:=by rw[h0]
def aaZ{id:Nat}:Ma iE jj j' sz agg id (.ls nn gV ds) k=
  ((gV=iE∧jj<ds.length∧j'<iE∧j'+sz≤iE∧(agg=true→(D.at ds jj).fX=true))∧k (.im (uM agg id (D.sub (D.at ds jj) j' sz agg)) (D.sub (D.at ds jj) j' sz agg)) []):=rfl
def abJ{id:Nat}{d:D}:uM true id d=some id:=by simp[uM]
def Uw{id:Nat}{v:Value}:uM false id (.sc v)=none:=by simp[uM,D.Nl]
def VV{id:Nat}:uM false id (.ls nn sz ds)=some id:=by simp[uM,D.Nl]
def Vr{id:Nat}:uM false id (.ag ds)=some id:=by simp[uM,D.Nl]
@[congr] def aiB{l:AV}{n:Nat}{k:Nat→Nat→Prop}(h0:l=l')(h1:h=h'):Bx l h n k=Bx l' h' n k:=by rw[h0,h1]
def afm{u:Option Nat}{b:IntKind}{l h:Int}{n:Nat}{k:Nat→Nat→Prop}:Bx (.im t (.sc (.int a l))) (.im u (.sc (.int b h))) n k=((0≤l∧l≤h∧h≤n)∧k l.toNat h.toNat):=rfl
def abx{id:Nat}:Cl (.sm id off len) ev un sz lo hi k=
  HI (un id) id off len sz lo.isSome ((lo.map ev).getD (.im none (.sc (.int .i64 0)))) ((hi.map ev).getD (.im none (.sc (.int .i64 len)))) k:=rfl
@[congr] def ajk{id:Nat}{lo:Bool}{l:AV}(h0:u=u')(h1:l=l')(h2:h=h'):HI u id off len sz lo l h k=HI u' id off len sz lo l' h' k:=by rw[h0,h1,h2]
def adA{id:Nat}{l:AV}:HI (some (.ar ow nn usz es)) id off len sz true l h k=(usz=sz∧Bx l h len fun l h=>k (.ss id (off+l) (h-l)) []):=rfl
def aeN{id:Nat}{l:AV}:HI (some (.ar ow nn usz es)) id off len sz false l h k=(usz=sz∧Bx l h len fun _ h=>k (.sm id off h) []):=rfl
def abc{id:Nat}:Cl (.cw id el j 1 false) ev un sz lo hi k=Iq (un id) id el j sz ((lo.map ev).getD (.im none (.sc (.int .i64 0)))) (hi.map ev) k:=rfl
@[congr] def aiy{id:Nat}{l:AV}{h h':Option AV}(h0:u=u')(h1:l=l')(h2:h=h'):Iq u id el j sz l h k=Iq u' id el j sz l' h' k:=by rw[h0,h1,h2]
def aaT{id:Nat}{l:AV}{h:Option AV}:Iq (some (.ar true nn usz es)) id el j sz l h k=MD (D.sub (D.at es el) j 1 false) id el j sz l h k:=rfl
@[congr] def aja{d:D}{id:Nat}{l:AV}{h:Option AV}(h0:d=d'):MD d id el j sz l h k=MD d' id el j sz l h k:=by rw[h0]
def aaG{id:Nat}{l:AV}{h:Option AV}:MD (.ls nn iE ds) id el j sz l h k=
  (iE=sz∧Bx l (h.getD (.im none (.sc (.int .i64 ds.length)))) ds.length fun l h=>k (.qs id el j sz l (h-l)) []):=rfl
def Vk{f:Nat}{d:Option Nat}:uu (.im t (.fn f ds)) Q d args un k=pP Q d f (args++ds.map (.im t)) un k:=rfl
def TH{f:Nat}{d:Option Nat}:uu (.cl f vs) Q d args un k=pP Q d f (args++vs) un k:=rfl
def Yo:tv (.ss i off len) un k=k (.im none (.sc (.int .i64 len))) []:=rfl
def aaN:tv (.z0 nn sz) un k=k (.im none (.sc (.int .i64 0))) []:=rfl
def ZF:tv (.qs i el j iE off len) un k=Bt (AV.den un (.qs i el j iE off len)) k:=rfl
attribute [go_sem] aeA ZJ adM aeq aaZ abJ Uw VV Vr afm abx adA aeN abc aaT aaG Vk TH Yo aaN ZF
def agJ(u:Option U)(id el j iE off len:Nat):Option (Option Nat×D):=match u with|some (.ar true _ _ es)=>(Db off len iE (D.sub (D.at es el) j 1 false)).map (some id,·)|_=>none
def aeS{id:Nat}:AV.den un (.qs id el j iE off len)=agJ (un id) id el j iE off len:=rfl
def aaU{id:Nat}:agJ (some (.ar true nn sz es)) id el j iE off len=(Db off len iE (D.sub (D.at es el) j 1 false)).map (some id,·):=rfl
def Vy:Db off len iE (.ls nn sz ds)=if sz=iE then some (.ls (if off=0∧len=ds.length then nn else none) sz ((ds.drop off).take len))else none:=rfl
def ac6{id:Nat}{st:St}:Li (.pq id el j iE jj j') x st sz f=js 12 st x (stD id el j iE jj j' sz f):=rfl
attribute [go_sem] aeS aaU Vy ac6
variable {ET:Bool}
@[congr] def akD{id:Nat}{d:D}{st:St}(h1:own=ET)(h2:d=d')(h3:st=gp):stD id el j iE jj j' sz f own d st=stD id el j iE jj j' sz f ET d' gp:=by rw[h1,h2,h3]
def adi{id:Nat}{d:D}{st:St}:stD id el j iE jj j' sz f own d st=stQ (st.unit id) id el j iE jj j' sz own d st f:=rfl
@[congr] def ajp{id:Nat}{d:D}(h0:u=u'):stQ u id el j iE jj j' sz own d gp f=stQ u' id el j iE jj j' sz own d gp f:=by rw[h0]
def ad1{id:Nat}{d:D}:stQ (some (.ar true nn usz es)) id el j iE jj j' sz own d gp f=stI nn usz es id el j iE jj j' sz own d gp f (D.sub (D.at es el) j 1 false):=rfl
@[congr] def akJ{id:Nat}{d:D}{q q':D}(h0:q=q'):stI nn usz es id el j iE jj j' sz own d gp f q=stI nn usz es id el j iE jj j' sz own d gp f q':=by rw[h0]
def afi{id:Nat}{d:D}:stI nn usz es id el j iE jj j' sz own d gp f (.ls jR gV ds)=
  ((gV = iE ∧ d.size = sz ∧ j' < iE ∧ j' + sz ≤ iE ∧ el < es.length ∧ jj < ds.length ∧ (j = 0 ∧ usz = 1 ∧ (D.at es el).fX = false ∨ (D.at es el).fX = true ∧ usz ≠ 1) ∧ (j' = 0 ∧ sz = iE ∨ (D.at ds jj).fX = true) ∧ d.gl = true) ∧
   f (gp.ue id (.ar true nn usz (lj es usz el j (.ls jR gV (ds.set jj (D.put gV (D.at ds jj) j' sz d))))))):=rfl
def Zh{q:Nat}:C6 (.z0 nn q) own ds gp d sz bytes f=
  ((ds.length*bytes≤140737488355328∧ds.length≤gz∧0<sz∧own=true∧(∀e∈ds,e.size=sz)∧gp.fresh [(d,.own .jk)]=true)∧f ((gp.kc [(d,.own (.ls (gT nn ds) sz ds))]).set d (.tr d))):=rfl
@[congr] def aiD{q q':Option D}{st:St}{f:Nat→St→Prop}(h0:q=q')(h1:x=x'):Po q x sz st f=Po q' x' sz st f:=by rw[h0,h1]
def Y6{st:St}{f:Nat→St→Prop}:Po (some (.ls nn gV ds)) x sz st f=((gV=sz∧0<sz∧fO ds=true)∧Kx x sz ds st f):=rfl
def Y0{y:AV}{d:Option Nat}{st:St}:Tm x y d sz st f=Po (y.arg st.unit) x sz st fun n gp=>f (gp.mu d (.im none (.sc (.int .i64 n)))):=rfl
@[congr] def aiV{st:St}{f:Nat→St→Prop}(h0:x=x'):Kx x sz ds st f=Kx x' sz ds st f:=by rw[h0]
def abR{id:Nat}{st:St}{f:Nat→St→Prop}:Kx (.sm id off len) sz ds st f=PW (st.unit id) id off len sz ds st f:=rfl
def YI{id:Nat}{st:St}{f:Nat→St→Prop}:Kx (.cw id el j 1 false) sz ds st f=Hw (st.unit id) id el j 0 none sz ds st f:=rfl
def abz{id:Nat}{st:St}{f:Nat→St→Prop}:Kx (.qs id el j iE off len) sz ds st f=(iE=sz∧Hw (st.unit id) id el j off (some len) sz ds st f):=rfl
@[congr] def ai8{id:Nat}{st:St}{f:Nat→St→Prop}(h0:u=u'):PW u id off len sz ds st f=PW u' id off len sz ds st f:=by rw[h0]
def aaY{id:Nat}{st:St}{f:Nat→St→Prop}:PW (some (.ar true nn usz es)) id off len sz ds st f=
  ((usz=sz∧off+len≤es.length)∧f (min len ds.length) (st.ue id (.ar true nn usz (Ev es off (min len ds.length) ds)))):=rfl
@[congr] def aiS{id:Nat}{len:Option Nat}{st:St}{f:Nat→St→Prop}(h0:u=u'):Hw u id el j off len sz ds st f=Hw u' id el j off len sz ds st f:=by rw[h0]
def abu{id:Nat}{len:Option Nat}{st:St}{f:Nat→St→Prop}:Hw (some (.ar true nn usz es)) id el j off len sz ds st f=MZ nn usz es id el j off len sz ds st f (D.sub (D.at es el) j 1 false):=rfl
@[congr] def aiT{id:Nat}{len:Option Nat}{st:St}{f:Nat→St→Prop}{q q':D}(h0:q=q'):MZ nn usz es id el j off len sz ds st f q=MZ nn usz es id el j off len sz ds st f q':=by rw[h0]
def Zj{id:Nat}{len:Option Nat}{st:St}{f:Nat→St→Prop}:MZ nn usz es id el j off len sz ds st f (.ls jR gV lQ)=
  ((gV = sz ∧ el < es.length ∧ (j = 0 ∧ usz = 1 ∧ (D.at es el).fX = false ∨ (D.at es el).fX = true ∧ usz ≠ 1)) ∧
   f (min (len.getD lQ.length) ds.length) (st.ue id (.ar true nn usz (lj es usz el j (.ls jR gV (Ev lQ off (min (len.getD lQ.length) ds.length) ds)))))):=rfl
def abd:Bt (some (t,.ls nn sz ds)) k=k (.im none (.sc (.int .i64 ds.length))) []:=rfl
def aay:tv (.im t (.ls nn sz ds)) un k=k (.im none (.sc (.int .i64 ds.length))) []:=rfl
def aae{b:Nat}:tv (.im t (.lc b o (.ls nn sz ds))) un k=k (.im none (.sc (.int .i64 ds.length))) []:=rfl
def aah:tv (.sm i off len) un k=k (.im none (.sc (.int .i64 len))) []:=rfl
def Yl{b:Nat}:Bt (some (t,.lc b o (.ls nn sz ds))) k=k (.im none (.sc (.int .i64 ds.length))) []:=rfl
def aaC:tv (.tr i) un k=Bt (AV.den un (.tr i)) k:=rfl
def aaS:tv (.cw i el j cz cg) un k=Bt (AV.den un (.cw i el j cz cg)) k:=rfl
attribute [go_sem] adi ad1 afi Zh Y6 Y0 abR YI abz aaY abu Zj abd aay aae aah Yl aaC aaS
def agk(u:Option U)(id el j cz:Nat)(cg:Bool):Option (Option Nat×D):=match u with|some (.ar true _ _ es)=>some (some id,D.sub (D.at es el) j cz cg)|_=>none
def ahh(u:Option U)(k:Nat):Option (Option Nat×D):=match u with|some (.own d)=>some (some k,d)|_=>none
def aex{d:D}:AV.den un (.im t d)=some (t,d):=rfl
def adF{k:Nat}:AV.den un (.tr k)=ahh (un k) k:=rfl
def adL{id:Nat}:AV.den un (.cw id el j cz cg)=agk (un id) id el j cz cg:=rfl
def abt{id:Nat}:agk (some (.ar true nn sz es)) id el j cz cg=some (some id,D.sub (D.at es el) j cz cg):=rfl
def ST{d:D}{k:Nat}:ahh (some (.own d)) k=some (some k,d):=rfl
def Yy{f:Nat}{d:Option Nat}:uu (.im t (.sc (.func (.func f) ⟨[]⟩ ⟨[]⟩))) Q d args un k=pP Q d f args un k:=rfl
def ac1:BD (.lf vs) i k=(i<vs.length∧k (vs.getD i .any) []):=rfl
def Wu{d:D}{st:St}{k:KT}:xz (some (.own d)) i st k=k true d (st.del i):=rfl
def Uk{st:St}{k:KT}:AA (some (.ar true nn sz es)) i off len st k=((off=0∧len=es.length)∧k true (.ls nn sz es) (st.del i)):=rfl
@[congr] def af0{st:St}{k:KT}(h0:u=u'):Au u i el j sz agg st k=Au u' i el j sz agg st k:=by rw[h0]
def WN{st:St}{k:KT}:Au (some (.ar true nn usz es)) i el j sz agg st k=((agg=true→(D.at es el).fX=true)∧k true (D.sub (D.at es el) j sz agg) (st.RY i el (.ar true nn usz (es.set el (D.put usz (D.at es el) j sz (Su sz agg)))))):=rfl
def Mk{d:D}{st:St}{k:KT}:io st (.im (some i) d) k=(d.gl=true∧k true d st):=by simp only[io]
def Vv{st:St}{k:KT}:io st (.cw i el j sz agg) k=Au (st.unit i) i el j sz agg st k:=by simp only[io]
def VA{st:St}{k:KL}:ra st sz (.cw i el j cz cg) k=wt (AV.arg st.unit (.cw i el j cz cg)) sz st k:=rfl
def Y1:C6 (.cw i el j cz cg) own ds gp d sz bytes f=io gp (.cw i el j cz cg) (Iw own ds d sz bytes f):=rfl
def M4{d:D}{st:St}{k:KT}:io st (.im none d) k=k d.gl d st:=by simp only[io]
def Tq{st:St}{k:KT}:io st (.tr i) k=xz (st.unit i) i st k:=by simp only[io]
def U9{st:St}{k:KT}:io st (.sm i off len) k=AA (st.unit i) i off len st k:=by simp only[io]
def Uv{st:St}{k:KT}:io st (.sg vs) k=qX st vs (sgC k):=by simp only[io]
def QU{st:St}{k:KL}:qX st [] k=k true [] st:=by simp only[qX]
def Mh{st:St}{k:KL}:qX st (v::vs) k=io st v (aaJ vs k):=by simp only[qX];rfl
@[congr] def agG{st:St}{k:KT}(h:st=gp)(h':v=v'):io st v k=io gp v' k:=by rw[h,h']
def SW{n:Nat}{d:D}{st:St}{k:KT}:js n st (.im none d) k=k d.flat d st:=by cases n<;>simp only[js]
def Pb{n:Nat}{t:Nat}{d:D}{st:St}{k:KT}:js n st (.im (some t) d) k=io st (.im (some t) d) k:=by cases n<;>simp only[js]
def Vx{n:Nat}{st:St}{k:KT}:js n st (.tr i) k=io st (.tr i) k:=by cases n<;>simp only[js]
def Us{n:Nat}{st:St}{k:KT}:js n st (.sm i off len) k=io st (.sm i off len) k:=by cases n<;>simp only[js]
def TX{n:Nat}{st:St}{k:KT}:js n st (.cw i el j sz agg) k=io st (.cw i el j sz agg) k:=by cases n<;>simp only[js]
def Wg{n:Nat}{st:St}{k:KT}:js (n+1) st (.sg vs) k=mp (js n) st vs (sgC k):=by simp only[js]
def TA{n:Nat}{st:St}{k:KT}:js (n+1) st (.vb i len) k=xu (js n) (st.unit i) i len st k:=by simp only[js]
@[congr] def agp{n:Nat}{st:St}{k:KT}(h:st=gp)(h':v=v'):js n st v k=js n gp v' k:=by rw[h,h']
@[congr] def afY{f:St→AV→KT→Prop}{st:St}{k:KT}(h:u=u'):xu f u i len st k=xu f u' i len st k:=by rw[h]
def S5{f:St→AV→KT→Prop}{st:St}{k:KT}:xu f (some (.bx sz items)) i len st k=(len=items.length∧mp f (st.del i) items (lsC sz k)):=rfl
def Mc{f:St→AV→KT→Prop}{st:St}{k:KL}:mp f st [] k=k true [] st:=rfl
def IF{f:St→AV→KT→Prop}{st:St}{k:KL}:mp f st (v::vs) k=f st v (aby f vs k):=rfl
@[congr] def afW{f:St→AV→KT→Prop}{st:St}{v v':List AV}{k:KL}(h:st=gp)(h':v=v'):mp f st v k=mp f gp v' k:=by rw[h,h']
attribute [go_sem] aex adF adL abt ST Yy ac1 Wu Uk WN Mk Vv VA Y1 M4 Tq U9 Uv QU Mh SW Pb Vx Us TX Wg TA S5 Mc IF
variable {b':Bool}
@[congr] def aiK{f:St→AV→KT→Prop}{k:KL}{d:D}{st:St}(h1:vs=BG)(h2:b=b')(h3:d=d')(h4:st=gp):aby f vs k b d st=aby f BG k b' d' gp:=by rw[h1,h2,h3,h4]
def Zu{f:St→AV→KT→Prop}{k:KL}{d:D}{st:St}:aby f vs k b d st=mp f st vs (EC b d k):=rfl
@[congr] def akH{k:KT}{st:St}(h2:b=b')(h3:ds=lQ)(h4:st=gp):lsC sz k b ds st=lsC sz k b' lQ gp:=by rw[h2,h3,h4]
def acP{k:KT}{st:St}:lsC sz k b ds st=((0<sz∧b=true∧∀d∈ds,d.size=sz)∧k true (.ls (some false) sz ds) st):=rfl
@[congr] def ag7{st:St}{v v':List AV}{k:KL}(h:st=gp)(h':v=v'):qX st v k=qX gp v' k:=by rw[h,h']
@[congr] def ahp{st:St}{k:KL}(h:st=gp)(h':v=v'):ra st sz v k=ra gp sz v' k:=by rw[h,h']
@[congr] def aio{k:KL}{d:D}{st:St}(h1:vs=BG)(h2:b=b')(h3:d=d')(h4:st=gp):aaJ vs k b d st=aaJ BG k b' d' gp:=by rw[h1,h2,h3,h4]
def aaB{k:KL}{d:D}{st:St}:aaJ vs k b d st=qX st vs (EC b d k):=rfl
@[congr] def ajf{k:KL}{c c':Bool}{d:D}{st:St}(h2:b=b')(h3:d=d')(h5:c=c')(h6:ds=lQ)(h4:st=gp):EC b d k c ds st=EC b' d' k c' lQ gp:=by rw[h2,h3,h4,h5,h6]
def YB{k:KL}{c:Bool}{d:D}{st:St}:EC b d k c ds st=((b=true∨c=false∨fO ds=true)∧(c=true∨b=false∨d.gl=true)∧k (Kv b d.gl c (fO ds)) (d::ds) st):=rfl
@[congr] def ajL{k:KT}{st:St}(h1:b=b')(h2:ds=lQ)(h3:st=gp):sgC k b ds st=sgC k b' lQ gp:=by rw[h1,h2,h3]
def acN{k:KT}{st:St}:sgC k b ds st=k b (.ag (ds.map D.cells).flatten) st:=rfl
def aaz{yR:Nat}{st:St}{k:KL}:C0 (some (.bx yR items)) i len sz st k=((yR=sz∧len=items.length)∧mp (js 12) (st.del i) items k):=rfl
def Zv{st:St}{k:KL}:wt (some (.ls nn gV ds)) sz st k=((sz=gV∧fO ds=true)∧k true ds st):=rfl
def WI{st:St}{k:KL}:ra st sz (.vb i len) k=C0 (st.unit i) i len sz st k:=rfl
def T7{st:St}{k:KL}:ra st sz (.im none (.ls nn gV ds)) k=(sz=gV∧k (fO ds) ds st):=rfl
def VF{d:D}{st:St}{k:KL}:ra st sz (.im (some i) d) k=wt (some d) sz st k:=rfl
def S2{st:St}{k:KL}:ra st sz (.tr i) k=wt (AV.arg st.unit (.tr i)) sz st k:=rfl
def Uh{st:St}{k:KL}:ra st sz (.sm i off len) k=wt (AV.arg st.unit (.sm i off len)) sz st k:=rfl
def adT{id:Nat}{st:St}:Li (.pw id el j) x st sz f=if x.isRef=true then stN (st.unit id) id el j sz x st f else js 12 st x (stC id el j sz f):=rfl
@[congr] def ajW{id:Nat}{d:D}{st:St}(h1:own=ET)(h2:d=d')(h3:st=gp):stC id el j sz f own d st=stC id el j sz f ET d' gp:=by rw[h1,h2,h3]
def adE{id:Nat}{d:D}{st:St}:stC id el j sz f own d st=stU (st.unit id) id el j sz own d st f:=rfl
def acE{id:Nat}{d:D}:stU (some (.ar ow nn usz es)) id el j sz own d gp f=
  ((d.size = sz ∧ j + sz ≤ usz ∧ el < es.length ∧ (j = 0 ∧ sz = usz ∨ (D.at es el).fX = true) ∧ (own = ow ∨ d.gl = true ∨ fO es = true)) ∧
    f (gp.ue id (.ar (fU own ow d.flat (fO es)) nn usz (es.set el (D.put usz (D.at es el) j sz d))))):=rfl
@[congr] def ai5{x:X}{st:St}(h1:own=ET)(h2:ds=lQ)(h3:st=gp):IN x d sz bytes f own ds st=IN x d sz bytes f ET lQ gp:=by rw[h1,h2,h3]
def ZY{x:X}:IN x d sz bytes f own ds gp=C6 (gp.ev x) own ds gp d sz bytes f:=rfl
def WG{q:Nat}:C6 (.im t (.ls (some true) q [])) own ds gp d sz bytes f=
  ((ds.length*bytes≤140737488355328∧ds.length≤gz∧0<sz∧(∀e∈ds,e.size=sz)∧gp.fresh [(d,.own .jk)]=true)∧f ((gp.kc [(d,.ar own (gT (some true) ds) sz ds)]).set d (.sm d 0 ds.length))):=rfl
def abP{id:Nat}:C6 (.sm id off len) own ds gp d sz bytes f=QS (gp.unit id) id off len own ds gp d sz bytes f:=rfl
def Yx:C6 (.tr i) own ds gp d sz bytes f=io gp (.tr i) (Iw own ds d sz bytes f):=rfl
@[congr] def aim{o o':Bool}{e e':D}{st:St}(h1:o=o')(h2:e=e')(h3:st=gp):Iw own ds d sz bytes f o e st=Iw own ds d sz bytes f o' e' gp:=by rw[h1,h2,h3]
def ZN{RZ:St}:Iw own ds d sz bytes f ET (.ls nn gV es) RZ=
  ((gV = sz ∧ own = true ∧ ET = true ∧ (es.length + ds.length) * bytes ≤ 140737488355328 ∧ es.length + ds.length ≤ gz ∧ (∀ e ∈ ds, e.size = sz) ∧ 0 < sz ∧ RZ.fresh [(d, .own .jk)] = true) ∧
    f ((RZ.kc [(d,.own (.ls (gT nn ds) sz (es++ds)))]).set d (.tr d))):=rfl
def abs{id:Nat}:QS (some (.ar ow nn usz es)) id off len own ds gp d sz bytes f=
  ((usz = sz ∧ 0 < sz ∧ off = 0 ∧ DY len es ∧ (len + ds.length) * bytes ≤ 140737488355328 ∧ len + ds.length ≤ gz ∧ (∀ e ∈ ds, e.size = sz) ∧ (own = ow ∨ fO ds = true ∨ fO (wi len es) = true)) ∧
    f ((gp.upr id (.ar (fU own ow (D.qJ ds) (fO (wi len es))) (gT nn ds) sz (wi len es++ds))).set d (.sm id 0 (len+ds.length)))):=rfl
attribute [go_sem] Zu acP aaB YB acN aaz Zv WI T7 VF S2 Uh adT adE acE ZY WG abP Yx ZN abs
attribute [go_sem] DY wi
end
attribute [go_sem] D.flat D.qJ rL MK Su List.replicate_succ List.replicate_zero Ks Zs IK TN gT fU bsK bsS Wb LA AV.OL GN ig sS Dy QN E8 AV.size Kv w7 AV.arg AV.shared kI jb jb.qK D.gl D.pL D.size D.fS D.put fO oT.dst
attribute [go_sem] if_true if_false ite_true ite_false reduceCtorEq true_and and_true true_implies List.map_nil List.map_cons List.length_nil List.length_cons List.length_map List.nil_append List.cons_append
 dJ dQ dy dh aI or_true true_or cI dR Bool.not_true Bool.not_false dI bV List.flatten_nil cJ List.all_nil
 bne_self_eq_false fo Bool.true_and Bool.and_true Bool.false_and Bool.and_false bP aL eO cY aj ak fq ft
 aS Int.toNat_zero aa ah List.isEmpty_nil List.isEmpty_cons aJ aO dz aP List.drop_nil List.take_nil
 Bool.not_eq_true Bool.not_eq_false a7 cK
def VM(d:D)(ds:List D):D.at (d::ds) 0=d:=rfl
attribute [go_sem] VM
variable {agg:Bool}{ds:List D}{j sz:Nat}
def aeh:D.sub (.ag ds) j sz agg=if agg then .ag ((ds.drop j).take sz)else ds.getD j default:=rfl
attribute [go_sem] aeh
variable {v:Value}
def n7:D.sub (.sc v) j sz agg=.sc v:=rfl
attribute [go_sem] n7
variable {z:Nat}{nn:Option Bool}
def pF:D.sub (.ls nn z ds) j sz agg=.ls nn z ds:=rfl
attribute [go_sem] pF
variable {d:D}{b:Nat}
def ado{o:Nat}:D.sub (.lc b o d) j sz agg=.lc b o d:=rfl
def X4{o:Nat}:D.fX (.lc b o d)=false:=rfl
def SS{o:Nat}:D.cells (.lc b o d)=[.lc b o d]:=rfl
attribute [go_sem] ado X4 SS
variable {i:Nat}
def afp:D.sub (.pt d i) j sz agg=.pt d i:=rfl
def aep:D.sub .jk j sz agg=.jk:=rfl
def fV:D.fX (.ag ds)=true:=rfl
def l9:D.fX (.sc v)=false:=rfl
def lB:D.fX (.ls nn z ds)=false:=rfl
def YY:D.fX (.pt d i)=false:=rfl
def aaF:D.fX .jk=false:=rfl
def TS:D.cells (.ag ds)=ds:=rfl
def VW:D.cells (.sc v)=[.sc v]:=rfl
def TI:D.cells (.ls nn z ds)=[.ls nn z ds]:=rfl
def VH:D.cells (.pt d i)=[.pt d i]:=rfl
def Tw:D.cells .jk=[.jk]:=rfl
attribute [go_sem] afp aep fV l9 lB YY aaF TS VW TI VH Tw
variable {p q:Prop}
@[go_sem high] def ail{t:Option Nat}:qO (.im t (.sc (.bool true))) true p q=p:=by simp[qO]
@[go_sem high] def ais{t:Option Nat}:qO (.im t (.sc (.bool true))) false p q=q:=by simp[qO]
@[go_sem high] def ait{t:Option Nat}:qO (.im t (.sc (.bool false))) true p q=q:=by simp[qO]
@[go_sem high] def aiu{t:Option Nat}:qO (.im t (.sc (.bool false))) false p q=p:=by simp[qO]
@[go_sem high] def ai6{t:Option Nat}:wu (.im t (.sc (.bool true))) p q=p:=by simp[wu]
@[go_sem high] def aiq{t:Option Nat}:wu (.im t (.sc (.bool false))) p q=q:=by simp[wu]
@[go_sem high] def aiH{t:Option Nat}{a b:AV}{k:KQ}:sw (.im t (.sc (.bool true))) a b k=k a []:=by simp[sw]
@[go_sem high] def aih{t:Option Nat}{a b:AV}{k:KQ}:sw (.im t (.sc (.bool false))) a b k=k b []:=by simp[sw]
attribute [go_sem] Bool.not_true Bool.not_false
def oT.xs:oT→List X
 |.mv _ x|.box _ _ x|.ld _ _ _ x|.nck _ x|.un _ _ x|.cvt _ _ x|.fa _ _ x|.fl _ _ _ _ x|.len _ x|.abS _ x|.ext _ x _=>[x]
 |.pick _ c a b=>[c,a,b]
 |.zer .. =>[]
 |.st _ a x=>[a,x]
 |.bin _ _ x y|.beq _ _ x y|.snil _ _ x y|.ceq _ _ _ x y|.ia _ _ x y|.ix _ x y|.app _ _ _ x y=>[x,y]
 |.mk _ _ _ _ l c=>[l,c]
 |.slc _ _ x lo hi|.sls _ x lo hi=>x::(lo.toList++hi.toList)
 |.call _ _ args=>args
 |.calv _ x args=>x::args
 |.bs _ _ _ _ ps=>ps.map (·.2)
 |.bld _ _ ps=>ps.map (·.2.2)
 |.mcl _ _ x y=>[x,y]
 |.cls _ _ x args=>x::args
 |.mkf _ _ args=>args
 |.s30 _ _ x=>[x]
 |.mxm _ _ x y=>[x,y]
 |.bse _ _=>[]
 |.zsb _ _ _=>[]
 |.bwr _ _ x args=>x::args
 |.bst _ _ x=>[x]
 |.ape _ _ _ x y=>[x,y]
 |.cvs _ x=>[x]
 |.cpy _ _ x y=>[x,y]
 |.sH _ _ args=>args
 |.Lk _ _ _ x y=>[x,y]
 |.wO _ a x=>[a,x]
 |.Ll _ _ args=>args
 |.W2 _ _ _ ps=>ps.map (·.2)
 |.RX _ x args=>x::args
 |.other _=>[]
def X.slot:X→Option Nat
 |.t n=>some n
 |.c _=>none
def RO.lq(r:RO):List Nat:=r.op.xs.filterMap X.slot++(match r.g with|some (t,_)=>[t]|none=>[])
def qo(o:Oper):List Nat:=(o.after.toList.filter (fun e=>Region.binds .any e)).map (·.on)
def gj(ops:Array Oper)(i:Nat):List Nat:=match ops[i]? with|some o=>qo o|none=>[]
def CS:List Nat→Bool
 | []=>true
 |x::l=>!l.contains x&&CS l
def qp(ops:Array Oper)(R:List RO)(i:Nat)(t:Nat):Bool:=
 (List.range R.length).all fun j =>
  match R[j]? with
  |some r=>r.op.dst !=some t||(j<i&&(gj ops i).contains j)||(i<j&&(gj ops j).contains i)
  |none=>true
def xC(ops:Array Oper)(R:List RO):Bool:=
 CS (R.filterMap (·.op.dst))&&(R.length==ops.size)&&
 (List.range R.length).all fun i =>
  (gj ops i).all (· <i)&&
  match R[i]? with
  |some r=>r.op.xQ&&r.lq.all (qp ops R i)
  |none=>true
variable {us:List (Nat×U)}
def f7{k:Nat}{u:U}(h:lu us k=some u):(k,u)∈us:=by
 induction us with
 |nil=>simp[lu]at h
 |cons x us ih=>
  obtain⟨i,v⟩:=x;simp only[lu]at h
  split at h
  ·next e=>obtain rfl:=aD h;subst e;simp
  exact bg _ (ih h)
def D.lr(h:∀d∈ds,d.size=1∧d.fX=false):D.fS ds=ds.length:=by
 rw[D.gk (sz:=1) fun d hd=>(h d hd).1];omega
def nA(hd:d.fX=false)(hv:v.oneCell'=true):d.fits v:=by
 cases d<;>simp_all [D.fits,D.fX]
def gD(hv:v.oneCell'=true):v.cells= #[v]:=by
 cases v<;>simp_all [Value.cells,Value.oneCell']
variable {h:jv}{cs:List Value}
def gJ.sub{F:List Nat}(hr:gJ h d F cs)(hj:j+sz≤d.size)(ha:agg=true→d.fX=true)(h1:agg=false→sz=1):
  ∃F1 F2 F3 c1 c2 c3,F=F1++(F2++F3)∧cs=c1++(c2++c3)∧c1.length=j∧c2.length=sz∧gJ h (D.sub d j sz agg) F2 c2∧(D.sub d j sz agg).fX=agg:=by
 by_cases hd:d.fX=true
 ·cases d with
  |ag ds=>
   simp only[gJ]at hr;obtain⟨hs,hr⟩:=hr;simp only[D.size,D.lr hs]at hj;have e:ds=ds.take j++((ds.drop j).take sz++(ds.drop j).drop sz):=by rw[bu,bu]
   rw[e]at hr;obtain⟨F1,F23,c1,c23,rfl,rfl,r1,r23⟩:=hr.split;obtain⟨F2,F3,c2,c3,rfl,rfl,r2,r3⟩:=r23.split;have l1:c1.length=j:=by
    rw[r1.length,D.lr fun d hd=>hs d (aY hd)];simp;omega
   have Eb:∀d∈(ds.drop j).take sz,d.size=1∧d.fX=false:=fun d hd=>hs d (bt (aY hd));have l2:c2.length=sz:=by
    rw[r2.length,D.lr Eb];simp;omega
   refine⟨F1,F2,F3,c1,c2,c3,rfl,rfl,l1,l2,?_,?_⟩
   ·cases agg with
    |true=>simp only[D.sub,ay,gJ];exact⟨Eb,r2⟩
    |false=>
     obtain rfl:=h1 rfl;simp only[D.sub,mI,aA];have iq:j<ds.length:=by omega
     have e2:(ds.drop j).take 1=[ds[j]]:=by
      rw[cL iq];simp only[aP,aO]
     rw[e2]at r2;rw[jX]at r2;obtain⟨G1,G2,e1,e3,rfl,rfl,q1,q2⟩:=r2;obtain⟨rfl,rfl⟩:=sf.1 q2;have:ds.getD j default=ds[j]:=by simp[List.getD,bb iq]
     rw[this];simpa using q1
   cases agg with
   |true=>simp[D.sub,D.fX]
   |false=>
    have iq:j<ds.length:=by have:=h1 rfl;omega
    have:ds.getD j default=ds[j]:=by simp[List.getD,bb iq]
    simp only[D.sub,mI,aA,this];exact(hs _ (aF iq)).2
  |_=>simp[D.fX]at hd
 have W3:agg=false:=by cases agg<;>simp_all
 subst W3;obtain rfl:=h1 rfl;have jP:d.size=1:=by cases d<;>simp_all [D.size,D.fX]
 have jS:D.sub d j 1 false=d:=by cases d<;>simp_all [D.sub,D.fX]
 have hl:=hr.length;refine⟨[],F,[],[],cs,[],by simp,by simp,by simp;omega,by omega,by rw[jS];exact hr,by rw[jS];simpa using hd⟩
def D.qL(h:i<ds.length):D.at ds i=ds[i]:=by simp[D.at,List.getD,bb h]
def getElem?_mid{α:Type}{a b c:List α}{v:α}(h:b[i]?=some v):(a++(b++c))[a.length+i]?=some v:=by
 have hi:i<b.length:=(bj.1 h).1;rw[dA (by omega),bL (by omega)];simpa using h
def G7{c:Array Value}{o:Nat}{c2:List Value}(hl:c2.length=sz)(hp:∀i v,c2[i]?=some v→c[o+i]?=some v):(c.toList.drop o).take sz=c2:=by
 apply eQ
 intro i;rw[dS]
 split
 ·next hi=>
  have AC:i<c2.length:=by omega
  have h1:c2[i]?=some c2[i]:=bb AC;have h2:=hp i _ h1;rw[←cE]at h2;rw[cZ,h2,h1]
 rw[ed (by omega)]
def uk{g:Gh}{n0:Nat}{S0 M0:Nat→Prop}(hu:gQ h n0 S0 M0 us g){id:Nat}{ow:Bool}{nn:Option Bool}{usz:Nat}{es:List D}
  (hm:(id,U.ar ow nn usz es)∈us) {el j sz b:Nat} {agg:Bool} (pz:el<es.length) (hb:g.β id=some b) (hj:j+sz≤usz) (ha:agg=true→(D.at es el).fX=true) (h1:agg=false→sz=1):
  ∃c e F2 c2,h[b]?=some (.cells c e (0,0))∧(∀i v,c2[i]?=some v→c[el*usz+j+i]?=some v)∧c2.length=sz∧gJ h (D.sub (D.at es el) j sz agg) F2 c2∧
   (D.sub (D.at es el) j sz agg).fX=agg∧el*usz+usz≤c.size∧(if ow then ∀x∈F2,x∈g.φ id∧g.β id≠some x else ∀x∈F2,g.Sh x):=by
 have ho:=hu.each _ hm;simp only[jn]at ho;obtain⟨_,hs,ho⟩:=ho;rcases ho with⟨h0,_⟩|⟨b',c,e,G,cs,rest,k1,k2,k3,k4,k5,k6,k7,k8⟩
 rw[hb]at h0;cases h0;rw[hb]at k1;obtain rfl:=aD k1;obtain⟨F1,F2,F3,c1,c2,c3,rfl,rfl,r1,r2,r3⟩:=k6.pick pz;have jP:(es[el]).size=usz:=hs _ (aF pz);rw[D.qL pz]at ha⊢;obtain⟨A1,A2,A3,d1,d2,d3,rfl,rfl,q1,q2,q3,q4⟩:=r2.sub (agg:=agg) (by rw[jP];exact hj) ha h1;have l1:c1.length=el*usz:=by
  rw[r1.length,D.gk (sz:=usz) fun d hd=>hs d (aY hd)];rw[a8,bh (di pz)]
 have l2:=r2.length;refine⟨c,e,A2,d2,k2,?_,q2,q3,q4,?_,?_⟩
 ·intro i v hv;have:=getElem?_mid (a:=c1++d1) (c:=d3++c3++rest) hv;rw[←cE,k3];simp only[lP,l1,q1,bC]at this⊢;exact this
 ·have:c.toList.length=c.size:=by simp
  rw[k3]at this;simp only[lP,l1]at this;simp only[lP]at l2;rw[jP]at l2;omega
 cases ow with
 |true=>
  simp only[ay]at k8⊢;intro x hx;have yX:x∈F1++(A1++(A2++A3)++F3):=by simp[hx]
  refine⟨by rw[k8];exact bg _ yX,?_⟩;rw[hb];intro e0;obtain rfl:=aD e0;have hn:(g.φ id).Nodup:=by
   have:=hu.nodup;clear k8;generalize KO:us=us' at this hm;clear KO hu
   induction us' with
   |nil=>cases hm
   |cons y ys ih=>
    simp only[fp,bX,aX]at this;rcases ab.1 hm with rfl|hm
    exact this.1;exact ih this.2.1 hm
  rw[k8]at hn;exact(aH.1 hn).1 yX
 |false=>
  simp only[mI,aA]at k8⊢;exact fun x hx=>k8.2 x (by simp[hx])
variable {P:Program}{n0:Nat}{S0 M0:Nat→Prop}{w0:World}
def lp(st:St):st.kc []=st:=by cases st;simp[St.kc]
def jV(n0:Nat)(S0 M0:Nat→Prop)(w0:World)(st:St)(dst:Option Nat)(k:KQ)(a':Act)(w':World):Prop:=
 ∃av us,k av us∧((us=[]∨st.fresh us=true)→k9 n0 S0 M0 w0 ((st.kc us).mu dst av) a' w')
def X6{a:Act}{d t:Nat}(hd:d<a.tmps.size):(a.put (some d) v).tmps.getD t undef=if d=t then v else a.tmps.getD t undef:=by
 simp only[Act.put,bM,Array.getElem?_setIfInBounds]
 split
 ·next h=>subst h;simp
 rfl
def jY{st:St}{a:Act}{w:World}(hs:k9 n0 S0 M0 w0 st a w){g:Gh}(hu:gQ w.heap n0 S0 M0 st.us g)
  (hv:∀t,fN w.heap st.us g (lk st.env t) (a.tmps.getD t undef)) {d:Option Nat} (hd:∀i,d=some i→i<st.n) {av:AV} {v:Value} (hr:fN w.heap st.us g av v):
  k9 n0 S0 M0 w0 (st.mu d av) (a.put d v) w:=by
 cases d with
 |none=>exact hs
 |some d=>
  have hd':=hd d rfl;refine⟨hs.ms,hs.v8,by simp[Act.put,St.mu,St.set,hs.tm],hs.base,hs.os,hs.tape,hs.output,hs.size,hs.jL,g,hu,fun t=>?_⟩;rw[X6 (by rw[hs.tm];exact hd')];simp only[St.mu,St.set,lk]
  split;exact hr;exact hv t
def Rk{st:St}{o:Oper}{a:Act}{w:World}{k:KQ}{Q':Exit→Act→World→Prop}(hs:k9 n0 S0 M0 w0 st a w){g:Gh}(hu:gQ w.heap n0 S0 M0 st.us g)
  (hv:∀t,fN w.heap st.us g (lk st.env t) (a.tmps.getD t undef)) (hd:∀i,o.dst=some i→i<st.n) {av:AV} {v:Value}
  (hH:(execOp a.eval o).run P w=.ok (.value v) w) (hr:fN w.heap st.us g av v) (hk:k av []):
  o.wp P a w (jV n0 S0 M0 w0 st o.dst k) Q':=by
 unfold Oper.wp;rw[hH];exact⟨av,[],hk,fun _=>by rw[lp];exact jY hs hu hv hd hr⟩
mutual
def jC:∀{d:D} {F cs},d.gl=true→gJ h d F cs→F=[]
 |.sc _,_,_,_,hr=>by simp only[gJ]at hr;exact hr.1
 |.ag ds,_,_,hn,hr=>by simp only[gJ]at hr;simp only[D.gl]at hn;exact Kh hn hr.2
 |.ls nn sz ds,_,_,hn,hr=>by
  simp only[gJ]at hr;simp only[D.gl,bA,aU]at hn;rcases hr with⟨_,_,_,h3,_⟩|⟨b,off,cap,c,e,fr,F',_,_,h3,_⟩
  exact h3;exact absurd hn.1 h3
 |.pt _ _,_,_,hn,_=>by simp[D.gl]at hn
 |.lc _ _ _,_,_,hn,_=>by simp[D.gl]at hn
 |.jk,_,_,_,hr=>by simp only[gJ]at hr;exact hr.1
def Kh:∀{ds:List D} {F cs},D.pL ds=true→gt h ds F cs→F=[]
 | [],_,_,_,hr=>by simp only[gt]at hr;exact hr.1
 |d::ds,_,_,hn,hr=>by
  simp only[gt]at hr;simp only[D.pL,bA]at hn;obtain⟨F1,F2,c1,c2,rfl,rfl,h1,h2⟩:=hr;rw[jC hn.1 h1,Kh hn.2 h2]
  rfl
end
def FN(h:jv)(v:Value)(sz:Nat)(hv:v.oneCell'=true):gJ h (wz v sz) [] [v]∧(wz v sz).size=1∧(wz v sz).fX=false∧(wz v sz).gl=true:=by
 unfold wz
 split;simp[gJ,D.size,D.fX,D.gl];simp[gJ,D.size,D.fX,D.gl,hv]
def Cz(h:jv):∀(cs:List Value)(s:List Nat),s.length=cs.length→(∀v∈cs,v.oneCell'=true)→
  gt h (List.zipWith wz cs s) [] cs∧(∀d∈List.zipWith wz cs s,d.size=1∧d.fX=false)∧D.pL (List.zipWith wz cs s)=true
 | [],s,_,_=>by cases s<;>simp[gt,D.pL]
 |v::cs,[],h1,_=>by simp at h1
 |v::cs,z::s,h1,h2=>by
  have ih:=Cz h cs s (by simpa using h1) fun x hx=>h2 x (by simp[hx]);have c:=FN h v z (h2 v (by simp));refine⟨?_,?_,?_⟩;simp only[ef,gt];exact⟨[],[],[v],cs,rfl,rfl,c.1,ih.1⟩
  ·simp only[ef,ab];rintro d (rfl|hd);exact⟨c.2.1,c.2.2.1⟩;exact ih.2.1 d hd
  simp only[ef,D.pL,c.2.2.2,ih.2.2,bi]
variable {t:TypeId}
def sJ(hc:HC P t v=some d)(h:jv):gJ h d [] v.cells.toList∧d.fits v∧d.gl=true:=by
 unfold HC at hc
 dsimp only at hc
 split at hc
 ·next cs=>
  split at hc
  ·next hq=>
   simp only[bA,a7]at hq;obtain rfl:=aD hc;have:=Cz h cs.toList (yx P 20 t) (by simpa using hq.1) (by simpa using Array.all_eq_true_iff_forall_mem.1 hq.2);exact⟨by simp only[gJ,Value.cells];exact⟨this.2.1,this.1⟩,by simp[D.fits],by simpa[D.gl]using this.2.2⟩
  cases hc
 split at hc
 ·next hq=>
  obtain rfl:=aD hc;have:=FN h v ((yx P 20 t).headD 0) hq;rw[gD hq];exact⟨this.1,nA this.2.2.1 hq,this.2.2.2⟩
 cases hc
def J1{st:St}{a:Act}{g:Gh}(hv:∀t,fN h us g (lk st.env t) (a.tmps.getD t undef)){x:Operand}{X:X}
  (hx:gG P t x=some X):fN h us g (st.ev X) (a.eval x):=by
 cases x with
 |tmp n=>
  simp only[gG,oS]at hx;subst hx;exact hv n
 |const v=>
  simp only[gG,cM]at hx;obtain⟨d,hd,rfl⟩:=hx;have:=sJ hd h;simp only[St.ev,rL]
  split<;>simp only[fN]<;>exact⟨[],this.1,this.2.1,by simp⟩
 |global i=>
  simp only[gG,oS]at hx;subst hx;simp only[St.ev,rL,D.flat,ay,fN];exact⟨[],by simp[gJ,Act.eval,Value.cells,Value.oneCell'],by simp[D.fits,Act.eval,Value.oneCell'],by simp⟩
 |func f=>
  simp only[gG,oS]at hx;subst hx;simp only[St.ev,rL,D.flat,ay,fN];exact⟨[],by simp[gJ,Act.eval,Value.cells,Value.oneCell'],by simp[D.fits,Act.eval,Value.oneCell'],by simp⟩
def kj{g:Gh}{t:Option Nat}{x:Value}(hr:fN h us g (.im t (.sc x)) v):v=x:=by
 simp only[fN,gJ,D.fits]at hr;obtain⟨F,⟨_,h1,_⟩,h2,_⟩:=hr;rw[gD h2]at h1;simpa using h1
def kt{g:Gh}{t:Option Nat}(hv:v.oneCell'=true):fN h us g (.im t (.sc v)) v:=by
 simp only[fN];exact⟨[],by simp[gJ,gD hv,hv],by simp[D.fits,hv],by simp⟩
def A4{g:Gh}{t:Option Nat}{o:Nat}(hr:fN h us g (.im t (.lc b o d)) v)(hd:d.fX=false):
  fN h us g (.im t d) v∧((∃l c,v=.slice (some ⟨b,o,none⟩) l c)∨v=.pointer (some ⟨b,o,none⟩)):=by
 simp only[fN,gJ]at hr⊢;obtain⟨F,⟨h1,h2⟩,h3,h4⟩:=hr;have Ec:v.oneCell'=true:=by simpa[D.fits]using h3
 have h5:d.fits v:=by cases d<;>simp_all [D.fits,D.fX]
 refine⟨⟨F,h2,h5,h4⟩,?_⟩;rw[gD Ec]at h1;simpa using h1
def Om{g:Gh}{t:Option Nat}{o:Nat}(hr:fN h us g (.im t d) v)(hv:v=.pointer (some ⟨b,o,none⟩)):
  fN h us g (.im t (.lc b o d)) v:=by
 subst hv;simp only[fN,gJ]at hr⊢;obtain⟨F,h1,h2,h3⟩:=hr;exact⟨F,⟨.inr (by simp[Value.cells]),h1⟩,by simp[D.fits,Value.oneCell'],h3⟩
variable {st:St}{o:Oper}{a:Act}{w:World}{k:KQ}{Q':Exit→Act→World→Prop}{g:Gh}
structure At (n0:Nat) (S0 M0:Nat→Prop) (w0:World) (st:St) (o:Oper) (a:Act) (w:World) (g:Gh):Prop where
 sat:k9 n0 S0 M0 w0 st a w
 us:gQ w.heap n0 S0 M0 st.us g
 rep:∀t,fN w.heap st.us g (lk st.env t) (a.tmps.getD t undef)
 dst:∀i,o.dst=some i→i<st.n
def At.pure_(h:At n0 S0 M0 w0 st o a w g){av:AV}(hH:(execOp a.eval o).run P w=.ok (.value v) w)(hr:fN w.heap st.us g av v)(hk:k av []):
  o.wp P a w (jV n0 S0 M0 w0 st o.dst k) Q':=Rk h.sat h.us h.rep h.dst hH hr hk
variable {x:Operand}
def At.ev_(h:At n0 S0 M0 w0 st o a w g){X:Ax.X}(hx:gG P t x=some X):fN w.heap st.us g (st.ev X) (a.eval x):=J1 h.rep hx
def ag9(h:At n0 S0 M0 w0 st o a w g){X:Ax.X}(ho:o.op=.move x∨o.op=.assign x)(hx:gG P t x=some X)(hq:k (st.ev X) []):
  o.wp P a w (jV n0 S0 M0 w0 st o.dst k) Q':=by
 refine h.pure_ (v:=a.eval x) ?_ (h.ev_ hx) hq;rcases ho with ho|ho<;>simp[execOp,ho]
variable {Y:Ax.X}{y:Operand}{u:TypeId}
def acI(h:At n0 S0 M0 w0 st o a w g){c:Operand}{C X:Ax.X}(ho:o.op=.pick c x y)(hc:gG P u c=some C)(hx:gG P t x=some X)(hy:gG P t y=some Y)
  (hq:sw (st.ev C) (st.ev X) (st.ev Y) k):o.wp P a w (jV n0 S0 M0 w0 st o.dst k) Q':=by
 have e:=h.ev_ hc;unfold sw at hq
 split at hq
 ·next t' b W4=>
  rw[W4]at e;have ec:=kj e;cases b with
  |true=>exact h.pure_ (v:=a.eval x) (by simp[execOp,ho,ec,asBool]) (h.ev_ hx) (hq.1 rfl)
  |false=>exact h.pure_ (v:=a.eval y) (by simp[execOp,ho,ec,asBool]) (h.ev_ hy) (hq.2 rfl)
 exact hq.elim
def agu(h:At n0 S0 M0 w0 st o a w g){X:Ax.X}(ho:o.op=.nilCheck x)(hx:gG P t x=some X)(hq:uj (st.ev X) k):
  o.wp P a w (jV n0 S0 M0 w0 st o.dst k) Q':=by
 have e:=h.ev_ hx;unfold uj at hq
 split at hq
 ·next t' d j hv=>
  rw[hv]at e;have e':=e;simp only[fN,gJ,D.fits]at e';obtain⟨F,⟨b,off,c,el,fr,F',h1,_⟩,h2,_⟩:=e';rw[gD h2]at h1;have h3:a.eval x=.pointer (some ⟨b,off+j,none⟩):=by simpa using h1
  exact h.pure_ (v:=a.eval x) (by simp[execOp,ho,h3]) e hq
 ·next t' b0 o0 d j hv=>
  rw[hv]at e;have e':=e;simp only[fN,gJ,D.fits]at e';obtain⟨F,⟨_,b,off,c,el,fr,F',h1,_⟩,h2,_⟩:=e';rw[gD h2]at h1;have h3:a.eval x=.pointer (some ⟨b,off+j,none⟩):=by simpa using h1
  exact h.pure_ (v:=a.eval x) (by simp[execOp,ho,h3]) e hq
 ·next t' p0 hv=>
  rw[hv]at e;have h3:=kj e;exact h.pure_ (v:=a.eval x) (by simp[execOp,ho,h3]) e hq
 ·next id el j hv=>
  rw[hv]at e;have e':=e;simp only[fN]at e';obtain⟨ow,nn,sz,es,b,_,_,_,_,h3⟩:=e';exact h.pure_ (v:=a.eval x) (by simp[execOp,ho,h3]) e hq
 ·next id el j iE jj j' hv=>
  rw[hv]at e;have e':=e;simp only[fN]at e';obtain⟨ow,nn,usz,es,b,c,ty,b',off',len',cap',_,_,_,_,_,_,h3⟩:=e';exact h.pure_ (v:=a.eval x) (by simp[execOp,ho,h3]) e hq
 ·next id j hv=>
  rw[hv]at e;have e':=e;simp only[fN]at e';obtain⟨_,_,b,_,_,h3⟩:=e';exact h.pure_ (v:=a.eval x) (by simp[execOp,ho,h3]) e hq
 exact hq.elim
variable {op:BinOp}
def TK{t:TypeId}{x y:Value}{kk:Value→Prop}(h:IK op x y kk)(w:World):
    ∃v,(binOp op t x y).run P w=.ok v w∧kk v∧v.oneCell'=true:=by
  unfold IK at h
  split at h
  · next k1 m k2 n =>
    cases op<;>simp only at h<;>
      (try simp only[binOp])<;>
      first
      |(obtain⟨rfl,h1,h⟩:=h;refine⟨_,?_,h,rfl⟩;simp[Op.intDiv,h1])
      | (obtain ⟨h1, h⟩ := h; refine ⟨_, ?_, h, rfl⟩; have h2 : ¬ n < 0 := by omega
         simp[Op.shift,h2])
      |(obtain⟨rfl,h⟩:=h;refine⟨_,?_,h,rfl⟩;simp[Op.intArith,Op.intBits,Op.intCmp])
  · next s1 s2 =>
    cases op<;>simp only at h<;>first
      |exact h.elim
      | (obtain ⟨h1, h⟩ := h
         have h2:¬(((s1.size+s2.size:Nat):Int)>IntKind.i64.max):=by simp[IntKind.max,IntKind.signed,IntKind.bits];omega
         exact⟨_,by simp only[binOp,Op.stringOp];rw[ae h2];rfl,h,rfl⟩)
      |exact⟨_,rfl,h,rfl⟩
  · exact h.elim
def uO{u:Value}(hu:u.oneCell'=true)(hn:u≠.nilIface)(w:World):(eqGuard op t x y u v).run P w=.ok () w:=by
 unfold eqGuard;cases op<;>first|rfl|(cases u<;>first|rfl|exact absurd rfl hn|cases hu)
def Z5(t:TypeId)(ht:P.underlying t=some .bool)(p q:Bool)(w:World):(Op.equal t (.bool p) (.bool q)).run P w=.ok (p==q) w:=by
 show(Op.equalIn (9999+1) t (.bool p) (.bool q)).run P w=_
 rw[Op.equalIn,bS,bo ht]
 rfl
def ae6(t e:TypeId)(ht:P.underlying t=some (.slice e))(p:Option Addr)(l c l' c':Nat)(w:World):(Op.equal t (.slice p l c) (.slice none l' c')).run P w=.ok p.isNone w:=by
 show(Op.equalIn (9999+1) t (.slice p l c) (.slice none l' c')).run P w=_
 rw[Op.equalIn,bS,bo ht];cases p<;>rfl
def aco(h:At n0 S0 M0 w0 st o a w g){t:TypeId}{X:Ax.X}(ho:o.op=.binOp op t x y u)(hx:gG P t x=some X)(hy:gG P u y=some Y)
  (hq:Ks op (st.ev X) (st.ev Y) k):o.wp P a w (jV n0 S0 M0 w0 st o.dst k) Q':=by
 have ex:=h.ev_ hx;have ey:=h.ev_ hy;unfold Ks Zs at hq
 split at hq
 ·next t1 p t2 q e1 e2=>
  rw[e1]at ex;rw[e2]at ey;have vx:=kj ex;have vy:=kj ey;obtain⟨v,hr,hk,h1⟩:=TK (P:=P) (t:=t) hq w;have hp:p.oneCell'=true∧p≠.nilIface:=by
   unfold IK at hq
   split at hq<;>simp_all [Value.oneCell']
  refine h.pure_ (v:=v) ?_ (kt h1) hk;simp[execOp,ho,vx,vy,uO hp.1 hp.2,hr]
 exact hq.elim
def acq(h:At n0 S0 M0 w0 st o a w g){neg:Bool}{X:Ax.X}(ho:o.op=.binOp op t x y u)(hx:gG P t x=some X)(hy:gG P u y=some Y)
  (ht:P.underlying t=some .bool) (hn:op=.eql∧neg=false∨op=.neq∧neg=true)
  (hq:J4 neg (st.ev X) (st.ev Y) k):o.wp P a w (jV n0 S0 M0 w0 st o.dst k) Q':=by
 have ex:=h.ev_ hx;have ey:=h.ev_ hy;unfold J4 at hq
 split at hq
 ·next t1 p t2 q e1 e2=>
  rw[e1]at ex;rw[e2]at ey;have vx:=kj ex;have vy:=kj ey;have eg:∀op,(eqGuard op t x y (.bool p) (.bool q)).run P w=.ok () w:=fun op=>uO rfl (by simp) w;refine h.pure_ (v:=.bool (if neg then !(p==q)else p==q)) ?_ (kt rfl) hq;rcases hn with⟨rfl,rfl⟩|⟨rfl,rfl⟩<;>
  simp[execOp,ho,vx,vy,eg,binOp,Z5 t ht]
 exact hq.elim
def uT{g:Gh}{t:Option Nat}(hr:fN h us g (.im t (.ls nn sz ds)) v):
  ∃p len cap,v=.slice p len cap∧len=ds.length∧(p=none→ds=[]∧cap=0∧nn≠some false)∧(p.isSome→nn≠some true):=by
 simp only[fN,gJ,D.fits]at hr;obtain⟨F,h1,h2,_⟩:=hr;rw[gD h2]at h1;rcases h1 with⟨p,h1,rfl,_,h3,h4⟩|⟨b,off,cap,c,e,fr,F',h1,_,h3,_⟩
 ·have:v=.slice p 0 0:=by simpa using h1
  exact⟨p,0,0,this,rfl,fun hp=>⟨rfl,rfl,h3 hp⟩,h4⟩
 have:v=.slice (some ⟨b,off,none⟩) ds.length cap:=by simpa using h1
 exact⟨_,_,_,this,rfl,by simp,fun _=>h3⟩
def TU(h:At n0 S0 M0 w0 st o a w g){neg:Bool}{e:TypeId}{X:Ax.X}(ho:o.op=.binOp op t x y u)(hx:gG P t x=some X)(hy:gG P u y=some Y)
  (ht:P.underlying t=some (.slice e)) (hn:op=.eql∧neg=false∨op=.neq∧neg=true)
  (hq:A0 neg (st.ev X) (st.ev Y) k):o.wp P a w (jV n0 S0 M0 w0 st o.dst k) Q':=by
 have ex:=h.ev_ hx;have ey:=h.ev_ hy;unfold A0 at hq
 split at hq
 ·next t1 p z1 d1 t2 z2 e1 e2=>
  rw[e1]at ex;rw[e2]at ey;obtain⟨p1,l1,c1,v1,_,h2,h3⟩:=uT ex;obtain⟨p2,l2,c2,v2,_,h4,h5⟩:=uT ey;have q2:p2=none:=by
   cases p2 with
   |none=>rfl
   |some z=>exact absurd rfl (h5 rfl)
  have q1:p1.isNone=p:=by
   cases p1 with
   |none=>cases p with
    |true=>rfl
    |false=>exact absurd rfl (h2 rfl).2.2
   |some z=>cases p with
    |true=>exact absurd rfl (h3 rfl)
    |false=>rfl
  subst q2;subst q1;have eg:∀op,(eqGuard op t x y (.slice p1 l1 c1) (.slice none l2 c2)).run P w=.ok () w:=fun op=>uO rfl (by simp) w;refine h.pure_ (v:=.bool (if neg then !p1.isNone else p1.isNone)) ?_ (kt rfl) hq;rcases hn with⟨rfl,rfl⟩|⟨rfl,rfl⟩<;>
  simp[execOp,ho,v1,v2,eg,binOp,ae6 t e ht]
 exact hq.elim
def alg(h:At n0 S0 M0 w0 st o a w g){op:UnOp}{X:Ax.X}(ho:o.op=.unOp op t x)(hx:gG P u x=some X)
  (hq:unK op (st.ev X) k):o.wp P a w (jV n0 S0 M0 w0 st o.dst k) Q':=by
 have ex:=h.ev_ hx;unfold unK at hq
 split at hq
 ·next t1 b e1=>
  rw[e1]at ex;exact h.pure_ (v:=.bool (!b)) (by simp[execOp,ho,kj ex,Op.unary]) (kt rfl) hq
 ·next t1 ki n e1=>
  rw[e1]at ex;exact h.pure_ (v:=.int ki (ki.wrap (-n))) (by simp[execOp,ho,kj ex,Op.unary,Op.intArith]) (kt rfl) hq
 exact hq.elim
def ahj(h:At n0 S0 M0 w0 st o a w g){s:TypeId}{kd ks:IntKind}{X:Ax.X}(ho:o.op=.convert s t x)(hx:gG P s x=some X)(hs:P.underlying s=some (.int ks))(ht:P.underlying t=some (.int kd))
  (hq:Km kd (st.ev X) k):o.wp P a w (jV n0 S0 M0 w0 st o.dst k) Q':=by
 have ex:=h.ev_ hx;unfold Km at hq
 split at hq
 ·next t1 ki n e1=>
  rw[e1]at ex;exact h.pure_ (v:=.int kd (kd.wrap n)) (by simp[execOp,ho,kj ex,convert,bo hs,bo ht,Conv.intToInt]) (kt rfl) hq
 exact hq.elim
def agN(h:At n0 S0 M0 w0 st o a w g){X:Ax.X}(ho:o.op=.extract x i)(hx:gG P t x=some X)
  (hq:BD (st.ev X) i k):o.wp P a w (jV n0 S0 M0 w0 st o.dst k) Q':=by
 have ex:=h.ev_ hx;unfold BD at hq
 split at hq
 ·next vs e1=>
  rw[e1]at ex;simp only[fN]at ex;obtain⟨xs,hv,hl⟩:=ex;obtain⟨hi,hk⟩:=hq;have:∀(vs:List AV)(xs:List Value)(i:Nat),fT w.heap st.us g vs xs→i<vs.length→∃v,xs[i]?=some v∧fN w.heap st.us g (vs.getD i .any) v:=by
   intro vs
   induction vs with
   |nil=>intro xs i _ hi;simp at hi
   |cons y vs ih=>
    intro xs i hl hi;simp only[fT]at hl;obtain⟨v,r,rfl,h1,h2⟩:=hl;cases i with
    |zero=>exact⟨v,rfl,h1⟩
    |succ i=>obtain⟨v',h3,h4⟩:=ih r i h2 (by simpa using hi);exact⟨v',by simpa using h3,by simpa using h4⟩
  obtain⟨v,h1,h2⟩:=this vs xs.toList i hl hi;refine h.pure_ (v:=v) ?_ h2 hk;have xR:xs[i]?=some v:=by simpa using h1
  simp[execOp,ho,hv,Instr.extract,xR]
 exact hq.elim
def Ao{F:List Nat}{vc:List Value}(hr:gJ h d F vc):gt h d.cells F vc∧∀x∈d.cells,x.size=1∧x.fX=false:=by
 by_cases hd:d.fX=true
 ·cases d with
  |ag ds=>simp only[gJ]at hr;exact⟨hr.2,hr.1⟩
  |_=>simp[D.fX]at hd
 have e:d.cells=[d]:=by cases d<;>simp_all [D.cells,D.fX]
 rw[e,jX];refine⟨⟨F,[],vc,[],by simp,by simp,hr,sf.2 ⟨rfl,rfl⟩⟩,?_⟩;intro x hx;simp only[au]at hx;subst hx;exact⟨by cases x<;>simp_all [D.size,D.fX],by simpa using hd⟩
def FT:∀{vs:List AV} {xs:List Value} {ds:List D},fT h us g vs xs→E8 vs=some ds→
  ∃F,gt h ds F (xs.map (·.cells.toList)).flatten∧(∀d∈ds,d.size=1∧d.fX=false)∧∀b∈F,g.ok none b
 | [],xs,ds,hr,hi=>by
  simp only[fT]at hr;simp only[E8,oS]at hi;subst hr hi;exact⟨[],by simp[gt],by simp,by simp⟩
 |av::vs,xs,ds,hr,hi=>by
  simp only[fT]at hr;obtain⟨v,r,rfl,h1,h2⟩:=hr;unfold E8 at hi
  split at hi
  ·next heq=>cases heq
  ·next d r' heq=>
   injection heq with e1 e2;subst e1 e2
   split at hi
   ·next lQ ot=>
    injection hi with hi;subst hi;obtain⟨F,i1,i2,i3⟩:=FT h2 ot;simp only[fN]at h1;obtain⟨F1,q1,q2,q3⟩:=h1;obtain⟨c1,c2⟩:=Ao q1;refine⟨F1++F,?_,?_,?_⟩;simpa using gt.append c1 i1
    ·intro x hx;rcases an.1 hx with hx|hx
     exact c2 x hx;exact i2 x hx
    intro b hb;rcases an.1 hb with hb|hb
    exact q3 b hb;exact i3 b hb
   cases hi
  cases hi
def II{vs:List AV}{xs:List Value}(hr:fT h us g vs xs){cs:Array Value}(hc:cs.toList=(xs.map (·.cells.toList)).flatten):fN h us g (QN vs) (.agg cs):=by
 unfold QN
 split
 ·next ds hi=>
  obtain⟨F,i1,i2,i3⟩:=FT hr hi;simp only[fN,gJ];exact⟨F,⟨i2,by simpa[Value.cells,hc]using i1⟩,⟨cs,rfl⟩,i3⟩
 simp only[fN];exact⟨xs,hr,by rw[←hc]⟩
def xG:∀{vs:List AV} {xs:List Value} (j n:Nat),fT h us g vs xs→fT h us g ((vs.drop j).take n) ((xs.drop j).take n)
 | [],xs,j,n,hr=>by simp only[fT]at hr;subst hr;simp[fT]
 |v::vs,xs,0,0,hr=>by simp[fT]
 |v::vs,xs,0,n+1,hr=>by
  simp only[fT]at hr;obtain⟨x,r,rfl,h1,h2⟩:=hr;have:=xG 0 n h2;simp only[aJ]at this;simp only[aJ,aP,fT];exact⟨x,_,rfl,h1,this⟩
 |v::vs,xs,j+1,n,hr=>by
  simp only[fT]at hr;obtain⟨x,r,rfl,h1,h2⟩:=hr;simpa using xG j n h2
def oV:∀{vs:List AV} {xs:List Value},fT h us g vs xs→xs.length=vs.length
 | [],xs,hr=>by simp only[fT]at hr;simp[hr]
 |v::vs,xs,hr=>by
  simp only[fT]at hr;obtain⟨x,r,rfl,_,h2⟩:=hr;simp[oV h2]
def F6:∀{vs:List AV} {xs:List Value} {i:Nat},fT h us g vs xs→i<vs.length→fN h us g (vs.getD i .any) (xs.getD i undef)
 | [],_,_,_,hi=>by simp at hi
 |a::as,vs,i,hr,hi=>by
  simp only[fT]at hr;obtain⟨v,r,rfl,h1,h2⟩:=hr;cases i with
  |zero=>simpa using h1
  |succ i=>simpa using F6 h2 (i:=i) (by simpa using hi)
def uD{av:AV}(hr:fN h us g av v)(ho:av.lV=true):v.oneCell'=true:=by
 cases av with
 |im t d=>
  simp only[AV.lV,bA,aU,cp]at ho;simp only[fN]at hr;obtain⟨F,r1,r2,r3⟩:=hr;cases d<;>simp_all [D.fits,D.fX,Value.oneCell']
 |pw i el j=>
  simp only[fN]at hr;obtain⟨_,_,_,_,_,_,_,_,_,rfl⟩:=hr;simp[Value.oneCell']
 |pb i j=>
  simp only[fN]at hr;obtain⟨_,_,_,_,_,rfl⟩:=hr;simp[Value.oneCell']
 |cl f vs=>
  simp only[fN]at hr;obtain⟨_,_,rfl⟩:=hr;simp[Value.oneCell']
 |sm i off len=>
  simp only[fN]at hr;obtain⟨_,_,_,_,_,_,⟨_,_,rfl⟩|⟨_,_,_,rfl⟩⟩:=hr<;>simp[Value.oneCell']
 |_=>simp[AV.lV]at ho
def ny:∀{vs:List AV} {xs:List Value},fT h us g vs xs→vs.all AV.lV=true→(xs.map (·.cells.toList)).flatten=xs
 | [],xs,hr,_=>by simp only[fT]at hr;simp[hr]
 |v::vs,xs,hr,ho=>by
  simp only[fT]at hr;obtain⟨x,r,rfl,h1,h2⟩:=hr;simp only[cJ,bA]at ho;simp[gD (uD h1 ho.1),ny h2 ho.2]
def BW{w:World}{off:Nat}{c:Array Value}{e:TypeId}{fr:Nat×Nat}(h:w.heap[b]?=some (.cells c e fr)):w.cell? ⟨b,off,none⟩=c[off]?:=by
 simp[World.cell?,h]
def te(b o j:Nat):(⟨b,o,none⟩:Addr).add j=⟨b,o+j,none⟩:=by unfold Addr.add;split<;>simp_all
def GG(hg:tQ P t=some agg)(w:World):(isAgg t).run P w=.ok agg w:=by
 unfold tQ at hg;unfold isAgg;rw[bS]
 split at hg
 ·next h=>rw[bo h];injection hg with hg;subst hg;rfl
 ·next h=>rw[bo h];injection hg with hg;subst hg;rfl
 ·next d h1 h2 h=>
  rw[bo h];injection hg with hg;subst hg;cases d<;>first|rfl|(exact absurd h (by intro h';simp_all))|simp_all
 cases hg
def qz(hz:kx P t=some sz)(w:World):(sizeOf t).run P w=.ok sz w:=by
 simp only[kx,cM]at hz;obtain⟨i,hi,rfl⟩:=hz;simp[sizeOf,typeInfo,hi]
def Ht(hz:kx P t=some sz)(hg:tQ P t=some agg){b off:Nat}(hl:cs.length=sz)
  (hc:∀i v,cs[i]?=some v→w.cell? ⟨b,off+i,none⟩=some v) (h1:agg=false→sz=1):
  ∃v,(Instr.loadAt t (.pointer (some ⟨b,off,none⟩))).run P w=.ok v w∧v.cells.toList=(if agg then cs else v.cells.toList)∧(agg=true→v=.agg cs.toArray)∧(agg=false→cs=[v]):=by
 cases agg with
 |true=>
  refine⟨.agg cs.toArray,?_,by simp[Value.cells],fun _=>rfl,by simp⟩;have hl':=run_loadCells_list (P:=P) w ⟨b,off,none⟩ cs (fun j v hv=>by rw[te];exact hc j v hv);rw[hl]at hl';simp[Instr.loadAt,Instr.sureAddr,loadVar,GG hg,qz hz,hl']
 |false=>
  obtain rfl:=h1 rfl
  match cs,hl with
  | [v],_=>
   have:=hc 0 v rfl;simp only[ah]at this;exact⟨v,by simp[Instr.loadAt,Instr.sureAddr,loadVar,GG hg,this],by simp,by simp,fun _=>rfl⟩
def yK(hd:d.fX=true):d.fits (.agg cs.toArray):=by
 cases d<;>simp_all [D.fits,D.fX]
def aca(hu:gQ h n0 S0 M0 us g){id el iE jj j':Nat}{nn jR:Option Bool}{usz:Nat}{es ds:List D}(hr:fN h us g (.pq id el j iE jj j') v)
  (jm:lu us id=some (.ar true nn usz es)) (hd:D.sub (D.at es el) j 1 false=.ls jR iE ds) (pz:jj<ds.length) (hj:j'<iE):fN h us g (.im (some id) (.pt (D.at ds jj) j')) v∧(D.at ds jj).size=iE:=by
 simp only[fN]at hr;obtain⟨ow,Ed,HU,t9,b,c,e,b',off',len',cap',r1,r2,r3,r4,r5,r6,rfl⟩:=hr;have:=hu.uniq r1 (f7 jm);injection this with e1 e2 e3 e4;subst e1 e2 e3 e4;obtain⟨c1,e1,F2,c2,p1,p2,p3,p4,p5,p6,p7⟩:=uk (agg:=false) (sz:=1) hu r1 r2 r4 r3 (by simp) (by simp);rw[r5]at p1;injection p1 with p1;injection p1 with p1 p1';subst p1
 match c2,p3 with
 | [cv],_=>
  have h0:=p2 0 cv rfl;rw[ah,r6]at h0;obtain rfl:=aD h0;rw[hd]at p4;simp only[gJ]at p4;rcases p4 with⟨p,q1,rfl,_⟩|⟨b1,off,cap,c3,el3,fr,F',q1,q2,q3,q4,q5,q6,q7,q8,q9⟩
  simp at pz;simp only[cu,dK,oS,Addr.mk.injEq,bY]at q1;obtain⟨⟨rfl,rfl⟩,rfl,rfl⟩:=q1;obtain⟨F1,F3,F4,d1,d2,d3,g1,g2,g3,g4,g5⟩:=q9.pick pz;have jP:=q8 _ (aF pz);have l1:d1.length=jj*iE:=by
   rw[g3.length,D.gk (sz:=iE) fun d hd=>q8 d (aY hd),a8,bh (di pz)]
  have hmul:jj*iE+iE≤ds.length*iE:=by
   have:=aZ iE (show jj+1≤ds.length by omega);rw[aT]at this;omega
  have OM:ds.length*iE≤cap'*iE:=aZ iE q4;rw[D.qL pz];simp only[fN];refine⟨⟨b'::F3,?_,by simp[D.fits,Value.oneCell'],?_⟩,jP⟩
  ·unfold gJ;refine⟨b',off'+jj*iE,c3,el3,fr,F3,by simp[Value.cells],rfl,by omega,q6,by omega,?_⟩;have:(c3.toList.drop (off'+jj*iE)).take ((ds[jj]).size)=d2:=by
    have e1:=congrArg (fun l=>(l.drop d1.length).take d2.length) g2;simp only[dT,bZ,dj,cx,c9]at e1;rw[l1]at e1;have l2:=g4.length;rw[jP]at l2;rw[l2,bh (by omega)]at e1;rw[jP];exact e1
   rw[this];exact g4
  intro y hy;refine .inr ⟨id,rfl,?_⟩;have nK:y∈F2:=by
   rw[q2,g1];rcases ab.1 hy with rfl|hy
   simp;simp[hy]
  simpa using p7 y nK
def T8{t1:Option Nat}{d:D}{j:Nat}{v0:Value}{t:TypeId}{agg:Bool}{sz:Nat}
  (hz:kx P t=some sz) (hg:tQ P t=some agg) (h1:agg=false→sz=1) (ex:fN w.heap st.us g (.im t1 (.pt d j)) v0)
  (q1:j+sz≤d.size) (q2:agg=true→d.fX=true):∃v,(Instr.loadAt t v0).run P w=.ok v w∧fN w.heap st.us g (.im t1 (D.sub d j sz agg)) v:=by
 simp only[fN,gJ]at ex;obtain⟨F,⟨b,off,c,e,fr,F',r1,r2,r3,r4,r5,r6⟩,f1,f2⟩:=ex;rw[gD (by simpa[D.fits]using f1)]at r1;have hv:v0=.pointer (some ⟨b,off+j,none⟩):=by simpa using r1
 obtain⟨F1,F2,F3,c1,c2,c3,g1,g2,g3,g4,g5,g6⟩:=r6.sub q1 q2 h1;have pR:∀i v,c2[i]?=some v→w.cell? ⟨b,off+j+i,none⟩=some v:=by
  intro i v hv;rw[BW r4];have:=getElem?_mid (a:=c1) (c:=c3) hv;rw[←g2,g3]at this;have iq:=(bj.1 this).1;rw[dL (by simp at iq;omega),cZ]at this;rw[←cE,show off+j+i=off+(j+i)by omega];exact this
 obtain⟨v,v1,v2,v3,v4⟩:=Ht (P:=P) (w:=w) hz hg g4 pR h1;refine⟨v,by rw[hv];exact v1,?_⟩;simp only[fN];refine⟨F2,?_,?_,fun x hx=>f2 x (by rw[r2,g1];simp[hx])⟩
 ·cases agg with
  |true=>rw[v3 rfl];simpa[Value.cells]using g5
  |false=>
   have:=v4 rfl;have ho1:=g5.one v (by rw[this];simp);rw[gD ho1];rw[this]at g5;simpa using g5
 cases agg with
 |true=>rw[v3 rfl];exact yK g6
 |false=>exact nA g6 (g5.one v (by rw[v4 rfl];simp))
def GX(KO:gQ w.heap n0 S0 M0 st.us g){av0:AV}{v0:Value}{t:TypeId}{agg:Bool}{sz:Nat}
  (hz:kx P t=some sz) (hg:tQ P t=some agg) (h1:agg=false→sz=1) (ex:fN w.heap st.us g av0 v0)
  (hq:FM av0 st.unit agg sz k):∃av v,(Instr.loadAt t v0).run P w=.ok v w∧fN w.heap st.us g av v∧k av []:=by
 unfold FM at hq
 split at hq
 ·next t1 d j=>
  obtain⟨⟨q1,q2⟩,hk⟩:=hq;obtain⟨v,r1,r2⟩:=T8 (st:=st) hz hg h1 ex q1 q2;exact⟨_,v,r1,r2,hk⟩
 ·next t1 b0 o0 d j=>
  obtain⟨⟨q1,q2⟩,hk⟩:=hq;obtain⟨v,r1,r2⟩:=T8 (st:=st) hz hg h1 (A4 ex rfl).1 q1 q2;exact⟨_,v,r1,r2,hk⟩
 ·next id el j=>
  simp only[fN]at ex;obtain⟨ow,nn,usz,es,b,r1,r2,r3,r4,hv⟩:=ex;unfold ldW at hq
  split at hq
  ·next ow' jR nf es' jm=>
   have hm:=f7 jm;have:=KO.uniq r1 hm;injection this with e1 e2 e3 e4;subst e1;subst e2;subst e3;subst e4;obtain⟨⟨q1,q2⟩,hk⟩:=hq;obtain⟨c,e,F2,c2,p1,p2,p3,p4,p5,p6,p7⟩:=uk KO r1 r2 r4 q1 q2 h1;have pR:∀i v,c2[i]?=some v→w.cell? ⟨b,el*usz+j+i,none⟩=some v:=by
    intro i v hv;rw[BW p1];exact p2 i v hv
   obtain⟨v,v1,v2,v3,v4⟩:=Ht (P:=P) (w:=w) hz hg p3 pR h1;refine⟨_,v,by rw[hv];exact v1,?_,hk⟩;have jQ:gJ w.heap (D.sub (D.at es el) j sz agg) F2 v.cells.toList∧(D.sub (D.at es el) j sz agg).fits v:=by
    cases agg with
    |true=>rw[v3 rfl];exact⟨by simpa[Value.cells]using p4,yK p5⟩
    |false=>
     have:=v4 rfl;have ho1:=p4.one v (by rw[this];simp);rw[gD ho1];rw[this]at p4;exact⟨by simpa using p4,nA p5 ho1⟩
   generalize hd:D.sub (D.at es el) j sz agg=d at*;cases ow with
   |false=>
    simp only[TN,mI,aA,fN]at p7⊢;exact⟨F2,jQ.1,jQ.2,fun x hx=>.inl (p7 x hx)⟩
   |true=>
    have hsome:fN w.heap st.us g (.im (some id) d) v:=by
     simp only[fN];refine⟨F2,jQ.1,jQ.2,fun x hx=>.inr ⟨id,rfl,?_⟩⟩;simpa using p7 x hx
    simp only[TN,ay]
    split
    ·next Lm=>
     have:=jC (D.mq Lm) jQ.1;subst this;simp only[fN];exact⟨[],jQ.1,jQ.2,by simp⟩
    simp only[fN];refine⟨nn,usz,es,b,c,e,r1,r2,q1,r4,p1,q2,h1,?_,?_⟩
    ·have hlen:v.cells.toList=c2:=by
      cases agg with
      |true=>rw[v3 rfl];simp[Value.cells]
      | false => rw [v4 rfl, gD (jQ.1.one v (by
        have:=v4 rfl;have h2:=jQ.2;have:d.fX=false:=p5;cases d<;>simp_all [D.fits,D.fX,Value.cells,Value.oneCell']<;>(try (cases v<;>simp_all [Value.cells,Value.oneCell']))))]
     rw[hlen];exact(G7 p3 p2).symm
    cases agg with
    |true=>rw[v3 rfl];simp[Value.cells]
    |false=>
     simp only[mI,aA];have h2:=jQ.2;have:d.fX=false:=p5;cases d<;>simp_all [D.fits,D.fX]
  exact hq.elim
 ·next id el j iE jj j'=>
  unfold ldQ at hq
  split at hq
  ·next nn usz es jm=>
   unfold Ma at hq
   split at hq
   ·next jR gV ds hd=>
    obtain⟨⟨rfl,q1,q2,q3,q4⟩,hk⟩:=hq;obtain⟨hp,hs⟩:=aca KO ex jm hd q1 q2;obtain⟨v,r1,r2⟩:=T8 (st:=st) hz hg h1 hp (by omega) q4;refine⟨_,v,r1,?_,hk⟩;unfold uM
    split
    ·next hc=>
     cases Sw:D.sub (D.at ds jj) j' sz agg with
     |sc x=>
      rw[Sw]at r2;simp only[fN,gJ]at r2⊢;obtain⟨F,⟨rfl,a1,a2⟩,a3,_⟩:=r2;exact⟨[],⟨rfl,a1,a2⟩,a3,by simp⟩
     |_=>rw[Sw]at hc;simp[D.Nl]at hc
    exact r2
   exact hq.elim
  exact hq.elim
 ·next id j=>
  unfold ldB at hq
  split at hq
  ·next usz x jm=>
   have hm:=f7 jm;simp only[fN]at ex;obtain⟨ON,ali,b,r1,r2,hv⟩:=ex;have:=KO.uniq r1 hm;injection this with e1 e2;subst e1 e2;have ho:=KO.each _ hm;simp only[jn]at ho;obtain⟨_,b',c,e,vs,rest,k1,k2,k3,k4,k5,k6⟩:=ho;rw[r2]at k1;obtain rfl:=aD k1;simp only[fT]at k4;obtain⟨v,r,rfl,hx,rfl⟩:=k4;obtain⟨⟨BH,_⟩,hq⟩:=hq;have Ln:=k5 BH v (by simp);have hc:c.toList=v.cells.toList++rest:=by simpa using k6
   have pR:∀(n:Nat) i y,((v.cells.toList.drop j).take n)[i]?=some y→w.cell? ⟨b,j+i,none⟩=some y:=by
    intro n i y hy;rw[BW k2,←cE,hc];rw[dS]at hy
    split at hy
    ·have hy:v.cells.toList[j+i]?=some y:=by simpa using hy
     rw[bL (bj.1 hy).1];exact hy
    cases hy
   unfold AN at hq
   split at hq
   ·next hcd=>
    obtain⟨rfl,rfl,hcd⟩:=hcd;have iy:(v.cells.toList.drop 0).take sz=v.cells.toList:=by
     rw[aJ,b9 (by simp[Ln])]
    obtain⟨v',v1,v2,v3,v4⟩:=Ht (P:=P) (w:=w) hz hg (b:=b) (off:=0) (cs:=(v.cells.toList.drop 0).take sz) (by rw[iy];simpa using Ln) (fun i y hy=>pR _ i y hy) h1;rw[iy]at v3 v4;have:v'=v:=by
     cases agg with
     |true=>
      have h3:=v3 rfl;cases x with
      |sg ys=>
       simp only[fN]at hx;obtain⟨xs,_,rfl⟩:=hx;rw[h3];simp[Value.cells]
      |_=>simp[jW]at hcd
     |false=>
      simp only[jW]at hcd;have h4:=v4 rfl;rw[gD (uD hx hcd)]at h4;simpa using h4.symm
    subst this;exact⟨x,v',by rw[hv];exact v1,hx,hq⟩
   unfold So at hq
   split at hq
   ·rename_i ys _ _
    obtain⟨⟨p1,p2⟩,hq⟩:=hq;simp only[fN]at hx;obtain⟨xs,zf,rfl⟩:=hx;have jH:=ny zf p1;have sC:(Value.agg (xs.map (·.cells.toList)).flatten.toArray).cells.toList=xs:=by rw[jH];simp[Value.cells]
    have hl:=oV zf;rw[sC]at pR;obtain⟨v',v1,v2,v3,v4⟩:=Ht (P:=P) (w:=w) hz hg (b:=b) (off:=j) (cs:=(xs.drop j).take sz) (by simp;omega) (fun i y hy=>pR _ i y hy) h1;have acw:=xG j sz zf
    split at hq
    ·next ha=>
     have h3:=v3 ha;refine⟨_,v',by rw[hv];exact v1,?_,hq⟩;rw[h3];refine II acw ?_;have:((ys.drop j).take sz).all AV.lV=true:=by
      rw[aM]at p1⊢;exact fun x hx=>p1 x (bt (aY hx))
     rw[ny acw this]
    next ha=>
    have ha:agg=false:=by simpa using ha
    have h4:=v4 ha;have xH:=h1 ha;subst xH;refine⟨_,v',by rw[hv];exact v1,?_,hq⟩;have:=F6 (i:=j) zf (by omega);have e5:xs.getD j undef=v':=by
     have hj:j<xs.length:=by omega
     rw[aE,bb hj];rw[cL hj,aP,aO]at h4;simpa using h4
    rw[e5]at this;exact this
   exact hq.elim
  exact hq.elim
 exact hq.elim
def aj6(h:At n0 S0 M0 w0 st o a w g){agg:Bool}{sz:Nat}{X:Ax.X}(ho:o.op=.load t x)(hx:gG P u x=some X)
  (hz:kx P t=some sz) (hg:tQ P t=some agg) (h1:agg=false→sz=1)
  (hq:FM (st.ev X) st.unit agg sz k):o.wp P a w (jV n0 S0 M0 w0 st o.dst k) Q':=by
 obtain⟨av,v,h2,h3,h4⟩:=GX (P:=P) h.us hz hg h1 (h.ev_ hx) hq;exact h.pure_ (v:=v) (by simp[execOp,ho,h2]) h3 h4
end Go.Ax
