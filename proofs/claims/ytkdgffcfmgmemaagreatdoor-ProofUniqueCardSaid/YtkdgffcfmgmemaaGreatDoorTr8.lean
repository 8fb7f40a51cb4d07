/- statetree: complete, Rows. -/
import Derived.Test.YtkdgffcfmgmemaaGreatDoorEz
import Derived.Test.YtkdgffcfmgmemaaGreatDoorTr7
import Derived.Test.YtkdgffcfmgmemaaGreatDoorEx25
set_option linter.unusedVariables false
set_option linter.unusedSimpArgs false
namespace Go.Proofs.YtkdgffcfmgmemaaGreatDoor
open Go.Proofs.Tryz
open Go Go.RowKit Gw
set_option maxRecDepth 100000
attribute [local irreducible] Gw.At Gw.Nx Gw.Ops
def JZ(M:List AR)(v:Value)(ps:List (List Bs)):Prop:=∃p cap,v= .slice p ps.length cap∧(ps.length≤maxLen∧ps.length≤cap)∧∀(i:Nat) (l:List Bs),ps[i]?=some l→∃q c,Dn M (.slice q l.length c) l∧∃g off cur T zz,p=some ⟨g,off,none⟩∧(g,Obj.cells cur T zz)∈M∧cur[off+i]?=some (.slice q l.length c)
def PP(M:List AR)(v:Value)(x:RP):Prop:=∃vr vp vt,v= .agg #[I4 x.tb,I4 x.cl,I4 x.lo,I4 x.hi,I4 x.ct,I4 x.fi,vr,vp,vt]∧DV M vr x.rows∧JZ M vp x.paths∧Dn M vt x.roots
theorem bU{e:TypeId}{v:Value}{ps:List (List Bs)}{pvs:List Value}{s mp:List AR}(h:BX 1 e v ps.length pvs s)(hP:LH mp pvs ps)(hn:ps.length≤maxLen):JZ (s++mp) v ps:=by
 rcases vJ ps.length with h0|h0
 · obtain ⟨b,cap,rfl⟩:=h.form
   exact ⟨b,cap,rfl,⟨hn,by omega⟩,fun i s hs=>by rw [uf h0]at hs;simp at hs⟩
 · obtain ⟨g,cap,cur,z,rfl,rfl,hle,hg⟩:=Ke h h0
   refine ⟨_,cap,rfl,⟨hn,hle⟩,fun i l hl=>?_⟩;have hlt:=(tH.1 hl).1
   obtain ⟨w,hw⟩:∃w,pvs[i]?=some w:=⟨_,tF (by have:=hP.1;omega)⟩;have hu:=hP.2 i w l hw hl
   obtain ⟨q,c,e1,h1,h2⟩:=id hu;subst e1;refine ⟨q,c,hu.mono (fun c h=>tZ _ h),g,0,cur,e,z,rfl,by simp,?_⟩;rw [uL];exact hg i _ hw
theorem JZ.mono{M M':List AR}{v:Value}{ls:List (List Bs)}(h:JZ M v ls)(hm:∀c∈M,c∈M'):JZ M' v ls:=by
 obtain ⟨p,cap,e,hl,hg⟩:=h;refine ⟨p,cap,e,hl,fun i s hs=>?_⟩;obtain ⟨q,c,h0,g,off,cur,T,zz,e1,h1,h2⟩:=hg i s hs;exact ⟨q,c,h0.mono hm,g,off,cur,T,zz,e1,hm _ h1,h2⟩
theorem Xi(v:Value)(p:Int)(rs:List AP)(s:List AR)(hv:PO v p rs s)(hs:BJ rs)(hn:rs.length≤2000)(hok:∀r∈rs,r.ok)(t c:Nat)(ht:t≤3)(hc:c≤3)(lo hi:Int)(hlh:lo≤hi)(Tg:TypeId)(zg:Nat×Nat):
 CO Tryz.prog 51 #[v,I4 (t:Int),I4 (c:Int),I4 lo,I4 hi] [[(1,.cells (Cs.map Bj).toArray Tg zg)],s] (fun r H'=>∃v' mem,r= .tuple #[v',I4 0]∧PP mem v' (EM rs t c lo hi)∧H'=[mem,[(1,.cells (Cs.map Bj).toArray Tg zg)],s]):=by
 have hml:=mL;refine EB (Xj v p rs s hv hs hn hok t c ht hc lo hi hlh Tg zg) rfl ?_;rintro r H' ⟨vr,vp,vt,sr2,sp,pvs,mp,so,rfl,h1,h2,h3,h4,rfl⟩;have hll:=Ho hs (t:Int) c
 have hto:toT (BC rs (t:Int) c) c hi≤(BC rs (t:Int) c).length:=Nat.min_le_right _ _;have hpl:=QK (BC rs (t:Int) c) (Bi (BC rs (t:Int) c) c lo) (toT (BC rs (t:Int) c) c hi -Bi (BC rs (t:Int) c) c lo)
 have hrl:(((BC rs (t:Int) c).drop (Bi (BC rs (t:Int) c) c lo)).take (toT (BC rs (t:Int) c) c hi -Bi (BC rs (t:Int) c) c lo)).length≤2000:=by rw [tL,tN];omega
 refine ⟨_,⟨_,sr2++(sp++mp)++so,rfl,⟨vr,vp,vt,rfl,?_,?_,?_⟩,rfl⟩,by simp⟩
 · exact (Dv h1 (by omega)).mono (fun c h=>u6 _ (u6 _ h))
 · exact (bU (BO h2 hpl.symm rfl) h3 (by rw [hpl];omega)).mono (fun c h=>u6 _ (tZ _ h))
 · exact (Fy (BO h4 (Im rs).symm rfl) (by rw [Im];omega)).mono (fun c h=>tZ _ h)
def Uv(x:RP)(j:Nat)(r:AP):Prop:=r.ok∧r.t=x.tb∧(Be r x.cl<x.lo→j=0)∧(x.hi<Be r x.cl→x.rows.length≤j+1)
def RN(x:RP)(q r:AP):Prop:=Be q x.cl<Be r x.cl∨Be q x.cl=Be r x.cl∧q.k<r.k
structure Fu(x:RP):Prop where
 tc:(0≤x.tb∧x.tb<4)∧0≤x.cl∧x.cl<4
 lh:x.lo≤x.hi
 ct:0≤x.ct∧x.ct≤2000
 fi:0≤x.fi∧x.fi≤x.ct
 n:(x.rows.length:Int)≤x.ct -x.fi
 none:x.rows.length=0→x.ct=0
 all:∀(j:Nat) (r:AP),x.rows[j]?=some r→Uv x j r∧(0<j→∀q,x.rows[j -1]?=some q→RN x q r)
 first:∀r,x.rows[0]?=some r→x.fi=0∨Be r x.cl<x.lo
 last:∀r,x.rows[x.rows.length -1]?=some r→x.fi+(x.rows.length:Int)=x.ct∨x.hi<Be r x.cl
noncomputable instance(x:RP):Decidable (Fu x):=Classical.propDecidable _
theorem Gd{M:List AR}{p:Option Addr}{cap:Nat}(x:RP)(vp vt:Value)(hR:DV M (.slice p x.rows.length cap) x.rows)(hc:0≤x.cl∧x.cl≤3)(pb i:Nat)(r:AP)(hr:x.rows[i]?=some r):Av Tryz.prog 185 #[I4 (i:Int),I5 pb] [[(pb,.cells #[I4 x.tb,I4 x.cl,I4 x.lo,I4 x.hi,I4 x.ct,I4 x.fi,.slice p x.rows.length cap,vp,vt] 49 (0,0))],M] (I4 (Be r x.cl)):=by
 have hml:=mL;obtain ⟨p9,cap9,e9,hl,hg⟩:=hR;injection e9 with e91 e92 e93
 subst e91 e93;obtain ⟨g,off,cur,T,zz,rfl,hm9,hsz9,hex9⟩:=hg i r hr;have hlt:=(tH.1 hr).1
 refine Se func185 ntmps185 [0,1] ?_;intro u R;refine Zq<|Zg<|Za Y<|Z0<|Zx<|Zq<|BI (n:=9) (0::1::0::7::15::0::32::127::255::[]) 128 (by kernel_rfl) (by kernel_rfl) rfl ?_;refine Zi 1 0 rfl (AZ (off:=6) underlying49 rfl rfl sizeOf45 Y)<|Zj 3 1 rfl isAgg45 Y ?_;refine Zi 7 2 rfl (AJ Y) ?_;refine Zi 15 3 rfl (AU underlying45 sizeOf113 Y Y (by first|omega|decide|(simp;done))) ?_;refine Fp (b:=g) (x:= .cells cur T zz) (D':=31) 4 rfl rfl rfl (by simp [hm9]) (AX (cs:=#[I4 r.t,I4 r.k,I4 r.v.a,I4 r.v.b,I4 r.v.c]) isAgg113 sizeOf113 Y (by omega) hex9) ?_;refine Zi 63 5 rfl (AZ (off:=1) underlying49 rfl rfl sizeOf3 Y)<|Zj 127 6 rfl isAgg3 Y ?_;refine Yw 7 255 rfl (Zu [_,_] Y call97 Y rfl (FQ r x.cl hc)) ?_;rintro _ _ ⟨rfl,rfl⟩;refine Zi 511 8 rfl (Ay Y)<|Am ?_;refine Zx<|A9 ?_;refine AB rfl results185 Y (by exact ⟨rfl,rfl⟩)
set_option maxHeartbeats 4000000 in
theorem M6{M:List AR}{v:Value}{x:RP}(hv:PP M v x):Av Tryz.prog 96 #[v] [M] (.bool (decide (Fu x))):=by
 have hml:=mL;obtain ⟨vr,vp,vt,rfl,hR,hP,hT⟩:=hv;obtain ⟨p,cap,e9,hl,hg⟩:=id hR;subst e9;refine Se func96 ntmps96 [0] ?_;intro u R;refine Zq<|Zg<|Ze (Bx #[_,_,_,_,_,_,_,_,_]) ?_;rintro _ _ ⟨pb,rfl,rfl⟩;refine Za Y<|Z0<|Zx<|Zq<|Zg<|Zh 6 underlying49 rfl rfl sizeOf45 Y<|Zl isAgg45 Y ?_;refine Zv (AV underlying45 Y)<|Za Y<|Z0<|Zx<|Zq<|Zq<|Zg<|Zh 0 underlying49 rfl rfl sizeOf3 Y<|Zl isAgg3 Y ?_;refine Zh 1 underlying49 rfl rfl sizeOf3 Y<|Zl isAgg3 Y ?_;refine Xr [_,_] Y call114 Y rfl (Ov x.tb x.cl) ?_;refine Zv (CB Y)<|Zm Y ?_;refine Aj (t:=17) Y rfl (fun hc1=>?_) (fun hc1=>?_)
 ·
  refine A7 Y rfl<|A7 Y rfl<|A7 Y rfl<|A7 Y rfl<|A7 Y rfl<|Zv (AL Y Y)<|Zm Y<|A7 Y rfl<|A7 Y rfl<|A7 Y rfl<|Zv (AL Y Y)<|Zm Y<|A7 Y rfl<|A7 Y rfl<|A7 Y rfl<|Zv (AL Y Y)<|Zm Y<|A7 Y rfl<|A7 Y rfl<|A7 Y rfl<|Zv (AL Y Y)<|Zm Y<|A7 Y rfl<|A7 Y rfl ?_;refine A7 Y rfl<|A7 Y rfl<|A7 Y rfl<|Zv (AL Y Y)<|Zm Y<|A7 Y rfl<|A7 Y rfl<|A7 Y rfl<|A7 Y rfl<|A7 Y rfl<|A7 Y rfl<|A7 Y rfl<|Zv (AL Y Y)<|Z0<|Zn [1,3,54] ?_;refine Zx<|CE Y<|Zq<|Zg<|Za Y<|Z0<|Zx<|A9<|Zt ?_;refine AB rfl results96 Y (by exact ⟨congrArg Value.bool (decide_eq_false (fun h9:Fu x=>by have h91:=h9.tc;have h92:=h9.lh;have h93:=h9.ct;have h94:=h9.fi;have h95:=h9.n;omega)).symm,rfl⟩)
 refine Yf 2 underlying49 rfl rfl sizeOf3 Y<|Yl isAgg3 Y ?_;refine Yf 3 underlying49 rfl rfl sizeOf3 Y<|Yl isAgg3 Y ?_;refine Yg (Es Y Y)<|Zv (AA Y Y)<|Zm Y ?_;refine Aj (t:=24) Y rfl (fun hc2=>?_) (fun hc2=>?_)
 ·
  refine A7 Y rfl<|A7 Y rfl<|A7 Y rfl<|Zv (AL Y Y)<|Zm Y<|A7 Y rfl<|A7 Y rfl<|A7 Y rfl<|Zv (AL Y Y)<|Zm Y<|A7 Y rfl<|A7 Y rfl<|A7 Y rfl<|Zv (AL Y Y)<|Zm Y<|A7 Y rfl<|A7 Y rfl<|A7 Y rfl<|A7 Y rfl<|A7 Y rfl<|Zv (AL Y Y)<|Zm Y<|A7 Y rfl<|A7 Y rfl ?_;refine A7 Y rfl<|A7 Y rfl<|A7 Y rfl<|A7 Y rfl<|A7 Y rfl<|Zv (AL Y Y)<|Z0<|Zn [1,3,54] ?_;refine Zx<|CE Y<|Zq<|Zg<|Za Y<|Z0<|Zx<|A9<|Zt ?_;refine AB rfl results96 Y (by exact ⟨congrArg Value.bool (decide_eq_false (fun h9:Fu x=>by have h91:=h9.tc;have h92:=h9.lh;have h93:=h9.ct;have h94:=h9.fi;have h95:=h9.n;omega)).symm,rfl⟩)
 refine Yf 4 underlying49 rfl rfl sizeOf3 Y<|Yl isAgg3 Y ?_;refine Yg (Eb Y Y)<|Zv (AA Y Y)<|Zm Y ?_;refine Aj (t:=29) Y rfl (fun hc3=>?_) (fun hc3=>?_)
 ·
  refine A7 Y rfl<|A7 Y rfl<|A7 Y rfl<|Zv (AL Y Y)<|Zm Y<|A7 Y rfl<|A7 Y rfl<|A7 Y rfl<|Zv (AL Y Y)<|Zm Y<|A7 Y rfl<|A7 Y rfl<|A7 Y rfl<|A7 Y rfl<|A7 Y rfl<|Zv (AL Y Y)<|Zm Y<|A7 Y rfl<|A7 Y rfl<|A7 Y rfl<|A7 Y rfl<|A7 Y rfl<|A7 Y rfl<|A7 Y rfl ?_;refine Zv (AL Y Y)<|Z0<|Zn [1,3,54] ?_;refine Zx<|CE Y<|Zq<|Zg<|Za Y<|Z0<|Zx<|A9<|Zt ?_;refine AB rfl results96 Y (by exact ⟨congrArg Value.bool (decide_eq_false (fun h9:Fu x=>by have h91:=h9.tc;have h92:=h9.lh;have h93:=h9.ct;have h94:=h9.fi;have h95:=h9.n;omega)).symm,rfl⟩)
 refine Yf 4 underlying49 rfl rfl sizeOf3 Y<|Yl isAgg3 Y ?_;refine Yg (Es Y Y)<|Zv (AA Y Y)<|Zm Y ?_;refine Aj (t:=34) Y rfl (fun hc4=>?_) (fun hc4=>?_)
 ·
  refine A7 Y rfl<|A7 Y rfl<|A7 Y rfl<|Zv (AL Y Y)<|Zm Y<|A7 Y rfl<|A7 Y rfl<|A7 Y rfl<|A7 Y rfl<|A7 Y rfl<|Zv (AL Y Y)<|Zm Y<|A7 Y rfl<|A7 Y rfl<|A7 Y rfl<|A7 Y rfl<|A7 Y rfl<|A7 Y rfl<|A7 Y rfl<|Zv (AL Y Y)<|Z0<|Zn [1,3,54] ?_;refine Zx<|CE Y<|Zq<|Zg<|Za Y<|Z0<|Zx<|A9<|Zt ?_;refine AB rfl results96 Y (by exact ⟨congrArg Value.bool (decide_eq_false (fun h9:Fu x=>by have h91:=h9.tc;have h92:=h9.lh;have h93:=h9.ct;have h94:=h9.fi;have h95:=h9.n;omega)).symm,rfl⟩)
 refine Yf 5 underlying49 rfl rfl sizeOf3 Y<|Yl isAgg3 Y ?_;refine Yg (Eb Y Y)<|Zv (AA Y Y)<|Zm Y ?_;refine Aj (t:=39) Y rfl (fun hc5=>?_) (fun hc5=>?_)
 ·
  refine A7 Y rfl<|A7 Y rfl<|A7 Y rfl<|A7 Y rfl<|A7 Y rfl<|Zv (AL Y Y)<|Zm Y<|A7 Y rfl<|A7 Y rfl<|A7 Y rfl<|A7 Y rfl<|A7 Y rfl<|A7 Y rfl<|A7 Y rfl<|Zv (AL Y Y)<|Z0<|Zn [1,3,54] ?_;refine Zx<|CE Y<|Zq<|Zg<|Za Y<|Z0<|Zx<|A9<|Zt ?_;refine AB rfl results96 Y (by exact ⟨congrArg Value.bool (decide_eq_false (fun h9:Fu x=>by have h91:=h9.tc;have h92:=h9.lh;have h93:=h9.ct;have h94:=h9.fi;have h95:=h9.n;omega)).symm,rfl⟩)
 refine Yf 5 underlying49 rfl rfl sizeOf3 Y<|Yl isAgg3 Y ?_;refine Yf 4 underlying49 rfl rfl sizeOf3 Y<|Yl isAgg3 Y ?_;refine Yg (Es Y Y)<|Zv (AA Y Y)<|Zm Y ?_;refine Aj (t:=46) Y rfl (fun hc6=>?_) (fun hc6=>?_)
 ·
  refine A7 Y rfl<|A7 Y rfl<|A7 Y rfl<|A7 Y rfl<|A7 Y rfl<|A7 Y rfl<|A7 Y rfl<|Zv (AL Y Y)<|Z0<|Zn [1,3,54] ?_;refine Zx<|CE Y<|Zq<|Zg<|Za Y<|Z0<|Zx<|A9<|Zt ?_;refine AB rfl results96 Y (by exact ⟨congrArg Value.bool (decide_eq_false (fun h9:Fu x=>by have h91:=h9.tc;have h92:=h9.lh;have h93:=h9.ct;have h94:=h9.fi;have h95:=h9.n;omega)).symm,rfl⟩)
 refine Zf Y Y<|Yf 4 underlying49 rfl rfl sizeOf3 Y<|Yl isAgg3 Y ?_;refine Yf 5 underlying49 rfl rfl sizeOf3 Y<|Yl isAgg3 Y ?_
 (refine FX Y (G8 Y Y (IntWalk.i64_in _ ?_)) rfl rfl ?_;(focus (first|omega|(simp;omega))))
 refine Yg (Es Y Y)<|Zv (AA Y Y)<|Z0<|Zn [1,3,54] ?_;refine Zx ?_;refine Ao Y (fun hc7=>?_) (fun hc7=>?_)
 ·
  refine Zq<|Zg<|Za Y<|Z0<|Zx<|A9<|Zt ?_;refine AB rfl results96 Y (by exact ⟨congrArg Value.bool (decide_eq_false (fun h9:Fu x=>by have h91:=h9.tc;have h92:=h9.lh;have h93:=h9.ct;have h94:=h9.fi;have h95:=h9.n;omega)).symm,rfl⟩)
 refine AC<|Zx<|Zq<|Zq<|Zg<|Zm Y<|Zv (C8 (n:=0) Y Y)<|Z0<|Zx ?_;refine Ao Y (fun hz=>?_) (fun hz=>?_)
 ·
  refine Zq<|Zg<|Zh 4 underlying49 rfl rfl sizeOf3 Y<|Zl isAgg3 Y ?_;refine Zv (CF Y Y)<|Za Y<|Z0<|Zx<|A9<|Zt ?_;refine AB rfl results96 Y (by exact ⟨GU ⟨fun h9=>⟨by omega,by omega,by omega,by omega,by omega,fun _=>h9,fun j r hj=>by have:=(tH.1 hj).1;omega,fun r hj=>by have:=(tH.1 hj).1;omega,fun r hj=>by have:=(tH.1 hj).1;omega⟩,fun h9=>h9.none hz⟩,rfl⟩)
 refine AC<|Zx<|Zq<|Zg<|Zv (Bt (vs:=[]) (us:=[_]) Y Y) ?_;refine Za Y<|Z0<|Zx<|Zq<|Zq<|Zg<|Zh 6 underlying49 rfl rfl sizeOf45 Y<|Zl isAgg45 Y ?_;refine Zv (AV underlying45 Y)<|Zm Y<|Z0<|Zx<|AQ<|Zb [64,1,3,4,62,63] ?_;refine Az (e0:=[(64,_)]) (fun m e H=>∃(i:Nat),m=x.rows.length -i∧(i≤x.rows.length∧∀(j:Nat) (r:AP),j<i→x.rows[j]?=some r→Uv x j r∧(0<j→∀q,x.rows[j -1]?=some q→RN x q r))∧e=[(64,I4 (i:Int))]∧H=[]) (by exact ⟨0,rfl,⟨tX _,by intro j r hj;omega⟩,rfl,rfl⟩) Wp ?_;rintro _ _ _ ⟨i,rfl,⟨hi,hall⟩,rfl,rfl⟩;refine Zq<|Zg<|Zv (Aq Y Y)<|Z0<|Zx<|Zq ?_;refine Ao Y (fun hlt=>?_) (fun hlt=>?_)
 ·
  obtain ⟨r,hr⟩:∃r,x.rows[i]?=some r:=⟨_,tF hlt⟩;obtain ⟨g,off,cur,T,zz,rfl,hm9,hsz9,hex9⟩:=hg i r hr;refine AC<|Zx<|Zq<|AQ<|Zq<|Zg<|Zm Y ?_;refine BM (AU underlying45 sizeOf113 Y Y (by first|omega|decide|(simp;done))) ?_;refine Cf (cs:=[(g,.cells cur T zz)]) (by simp [hm9]) (AX (cs:=#[I4 r.t,I4 r.k,I4 r.v.a,I4 r.v.b,I4 r.v.c]) isAgg113 sizeOf113 Y (by omega) hex9) rfl rfl ?_;refine Ze (Al zeroValue113 #[_,_,_,_,_]) ?_;rintro _ _ ⟨rb,rfl,rfl⟩;refine Za Y<|Xe (Xw sizeOf113 #[I4 r.t,I4 r.k,I4 r.v.a,I4 r.v.b,I4 r.v.c]) ?_;refine Z0<|Zx<|Zq<|Zg<|Zm Y<|Zm Y<|Xr [_] Y call185 Y rfl (Gd x vp vt hR (by omega) pb i r hr) ?_;refine Za Y<|Z0<|Zx<|Zb [1,3,4,5,6,7,62,63,64] ?_;refine CW (e0:=[]) (H0:=[]) (fun e H=>∃(u9:Unit),(Uv x i r)∧e=[]∧H=[]) Wp ?hx_10 ?hy_10
  case hx_10=>
   refine Zq<|Zg<|Zo Wh (Pa #[_,_,_,_,_] isAgg113 sizeOf113 Y) ?_;refine Xr [_] Y call186 Y rfl (Pw r) ?_;refine Zv (CB Y)<|Zm Y ?_;refine Aj (t:=75) Y rfl (fun hc8=>?_) (fun hc8=>?_)
   ·
    refine A7 Y rfl<|A7 Y rfl<|A7 Y rfl<|A7 Y rfl<|A7 Y rfl<|Zv (AL Y Y)<|Zm Y<|A7 Y rfl<|A7 Y rfl<|A7 Y rfl<|A7 Y rfl<|A7 Y rfl<|A7 Y rfl<|A7 Y rfl<|A7 Y rfl<|Zv (AL Y Y)<|Zm Y<|A7 Y rfl<|A7 Y rfl<|A7 Y rfl<|A7 Y rfl<|A7 Y rfl<|A7 Y rfl<|A7 Y rfl ?_;refine A7 Y rfl<|A7 Y rfl<|A7 Y rfl<|Zv (AL Y Y)<|Z0<|Zn [1,3,4,5,6,7,62,63,64,103] ?_;refine Zx<|CE Y<|Zq<|Zg<|Za Y<|Z0<|Zx<|A9<|Zt<|AY<|Zt<|Zt<|AY<|Zt ?_;refine AB rfl results96 Y (by exact ⟨congrArg Value.bool (decide_eq_false (fun h9:Fu x=>by obtain ⟨⟨h91,h92,h93,h94⟩,_⟩:=h9.all i r hr;first|omega|contradiction)).symm,rfl⟩)
   refine Yf 0 underlying113 rfl rfl sizeOf3 Y<|Yl isAgg3 Y ?_;refine Yf 0 underlying49 rfl rfl sizeOf3 Y<|Yl isAgg3 Y ?_;refine Yg (IL Y Y)<|Zv (AA Y Y)<|Zm Y ?_;refine Aj (t:=82) Y rfl (fun hc9=>?_) (fun hc9=>?_)
   ·
    refine A7 Y rfl<|A7 Y rfl<|A7 Y rfl<|A7 Y rfl<|A7 Y rfl<|A7 Y rfl<|A7 Y rfl<|A7 Y rfl<|Zv (AL Y Y)<|Zm Y<|A7 Y rfl<|A7 Y rfl<|A7 Y rfl<|A7 Y rfl<|A7 Y rfl<|A7 Y rfl<|A7 Y rfl<|A7 Y rfl<|A7 Y rfl<|A7 Y rfl<|Zv (AL Y Y)<|Z0<|Zn [1,3,4,5,6,7,62,63,64,103] ?_;refine Zx<|CE Y<|Zq<|Zg<|Za Y<|Z0<|Zx<|A9<|Zt<|AY<|Zt<|Zt<|AY<|Zt ?_;refine AB rfl results96 Y (by exact ⟨congrArg Value.bool (decide_eq_false (fun h9:Fu x=>by obtain ⟨⟨h91,h92,h93,h94⟩,_⟩:=h9.all i r hr;first|omega|contradiction)).symm,rfl⟩)
   refine Zf Y Y<|Yf 2 underlying49 rfl rfl sizeOf3 Y<|Yl isAgg3 Y ?_;refine Yg (Eb Y Y)<|Zf Y Y ?_;refine Aj (t:=87) Y rfl (fun hc10=>?_) (fun hc10=>?_)
   ·
    refine Zf Y Y<|Yg (DJ (n:=0) Y Y)<|Yg (AL Y Y)<|Zv (AA Y Y)<|Zm Y ?_;refine Aj (t:=92) Y rfl (fun hc11=>?_) (fun hc11=>?_)
    ·
     refine A7 Y rfl<|A7 Y rfl<|A7 Y rfl<|A7 Y rfl<|A7 Y rfl<|A7 Y rfl<|A7 Y rfl<|A7 Y rfl<|A7 Y rfl<|A7 Y rfl<|Zv (AL Y Y)<|Z0<|Zn [1,3,4,5,6,7,62,63,64,103] ?_;refine Zx<|CE Y<|Zq<|Zg<|Za Y<|Z0<|Zx<|A9<|Zt<|AY<|Zt<|Zt<|AY<|Zt ?_;refine AB rfl results96 Y (by exact ⟨congrArg Value.bool (decide_eq_false (fun h9:Fu x=>by obtain ⟨⟨h91,h92,h93,h94⟩,_⟩:=h9.all i r hr;first|omega|contradiction)).symm,rfl⟩)
    refine Zf Y Y<|Yf 3 underlying49 rfl rfl sizeOf3 Y<|Yl isAgg3 Y ?_;refine Yg (Es Y Y)<|Zf Y Y ?_;refine Aj (t:=97) Y rfl (fun hc12=>?_) (fun hc12=>?_)
    ·
     refine Zf Y Y<|Zf Y Y ?_
     (refine FX Y (Bg (n:=1) Y Y ?_ ?_) rfl rfl ?_;(focus (first|omega|(simp;omega)));(focus (first|omega|(simp;omega))))
     refine Yg (Aq Y Y)<|Yg (AL Y Y)<|Zv (AA Y Y)<|Z0<|Zn [1,3,4,5,6,7,62,63,64,103] ?_;refine Zx ?_;refine Ao Y (fun hc13=>?_) (fun hc13=>?_)
     ·
      refine Zq<|Zg<|Za Y<|Z0<|Zx<|A9<|Zt<|AY<|Zt<|Zt<|AY<|Zt ?_;refine AB rfl results96 Y (by exact ⟨congrArg Value.bool (decide_eq_false (fun h9:Fu x=>by obtain ⟨⟨h91,h92,h93,h94⟩,_⟩:=h9.all i r hr;first|omega|contradiction)).symm,rfl⟩)
     refine AC<|Zn [1,3,4,5,6,7,62,63,64] ?_;refine BB (e':=[]) (by exact ⟨(),⟨by exact uH.1 (by assumption),by omega,fun h=>by omega,fun h=>by omega⟩,rfl,rfl⟩)
    refine A7 Y rfl<|A7 Y rfl<|A7 Y rfl<|A7 Y rfl<|Yg (AA Y Y)<|Zv (AA Y Y)<|Z0<|Zn [1,3,4,5,6,7,62,63,64,103] ?_;refine Zx<|Di Y<|AC<|Zn [1,3,4,5,6,7,62,63,64] ?_;refine BB (e':=[]) (by exact ⟨(),⟨by exact uH.1 (by assumption),by omega,fun h=>by omega,fun h=>by omega⟩,rfl,rfl⟩)
   refine A7 Y rfl<|A7 Y rfl<|Yg (AA Y Y)<|Zv (AA Y Y)<|Zm Y<|Zf Y Y<|Yf 3 underlying49 rfl rfl sizeOf3 Y<|Yl isAgg3 Y ?_;refine Yg (Es Y Y)<|Zf Y Y ?_;refine Aj (t:=97) Y rfl (fun hc14=>?_) (fun hc14=>?_)
   ·
    refine Zf Y Y<|Zf Y Y ?_
    (refine FX Y (Bg (n:=1) Y Y ?_ ?_) rfl rfl ?_;(focus (first|omega|(simp;omega)));(focus (first|omega|(simp;omega))))
    refine Yg (Aq Y Y)<|Yg (AL Y Y)<|Zv (AA Y Y)<|Z0<|Zn [1,3,4,5,6,7,62,63,64,103] ?_;refine Zx ?_;refine Ao Y (fun hc15=>?_) (fun hc15=>?_)
    ·
     refine Zq<|Zg<|Za Y<|Z0<|Zx<|A9<|Zt<|AY<|Zt<|Zt<|AY<|Zt ?_;refine AB rfl results96 Y (by exact ⟨congrArg Value.bool (decide_eq_false (fun h9:Fu x=>by obtain ⟨⟨h91,h92,h93,h94⟩,_⟩:=h9.all i r hr;first|omega|contradiction)).symm,rfl⟩)
    refine AC<|Zn [1,3,4,5,6,7,62,63,64] ?_;refine BB (e':=[]) (by exact ⟨(),⟨by exact uH.1 (by assumption),by omega,fun h=>by omega,fun h=>by omega⟩,rfl,rfl⟩)
   refine A7 Y rfl<|A7 Y rfl<|A7 Y rfl<|A7 Y rfl<|Yg (AA Y Y)<|Zv (AA Y Y)<|Z0<|Zn [1,3,4,5,6,7,62,63,64,103] ?_;refine Zx<|Di Y<|AC<|Zn [1,3,4,5,6,7,62,63,64] ?_;refine BB (e':=[]) (by exact ⟨(),⟨by exact uH.1 (by assumption),by omega,fun h=>by omega,fun h=>by omega⟩,rfl,rfl⟩)
  rintro _ _ ⟨u9,hfit,rfl,rfl⟩;refine Zq<|BI (n:=30) (0::1::3::7::7::7::39::119::255::511::1023::1023::1023::5119::15359::32767::65535::131071::262143::131071::655359::131071::2228223::7995391::16383999::33161215::67108863::134217727::268435455::536870911::[]) 16512 (by kernel_rfl) (by kernel_rfl) rfl ?_;refine Zi 1 0 rfl (AJ Y)<|Zi 3 1 rfl (DJ (n:=0) Y Y)<|Zi 7 2 rfl (AJ Y) ?_;refine CS (t:=106) Y (fun hi0=>?_) (fun hi0=>?_)
  ·
   first|rw [decide_eq_true hi0]|rw [hi0]|skip
   obtain ⟨q,hq⟩:∃q,x.rows[i -1]?=some q:=⟨_,tF (by omega)⟩;obtain ⟨g2,off2,cur2,T2,zz2,e29,hm29,hsz29,hex29⟩:=hg (i -1) q hq;injection e29 with e29
   injection e29 with e291 e292
   subst e291 e292;have hkq:cur2[off+(i -1)*5+1]?=some (I4 q.k):=by rw [NV hex29 hsz29 1 (by omega)];rfl
   refine Ag (D':=15) 3 Y rfl rfl rfl (AJ Y) ?_;refine Ag (D':=31) 4 Y rfl rfl rfl (AJ Y) ?_;refine Ag (D':=63) 5 Y rfl rfl rfl (AJ Y) ?_
   (refine Ag (D':=127) 6 Y rfl rfl rfl (Bg (n:=1) Y Y ?_ ?_) ?_;(focus (first|omega|(simp;omega)));(focus (first|omega|(simp;omega))))
   refine Yw 7 255 rfl (Zu [_] Y call185 Y rfl (Gd x vp vt hR (by omega) pb (i -1) q hq)) ?_;rintro _ _ ⟨rfl,rfl⟩;refine Ag (D':=511) 8 Y rfl rfl rfl (Eb Y Y) ?_;refine Ag (D':=1023) 9 Y rfl rfl rfl (AJ Y) ?_;refine CS (t:=113) Y (fun hvw=>?_) (fun hvw=>?_)
   ·
    first|rw [decide_eq_true hvw]|rw [hvw]|skip
    refine Yk 2047 10 rfl<|Yk 4095 11 rfl<|Yk 8191 12 rfl<|Yk 16383 13 rfl<|Yk 32767 14 rfl<|Yk 65535 15 rfl<|Yk 131071 16 rfl<|Yk 262143 17 rfl<|Yk 524287 18 rfl<|Yk 1048575 19 rfl<|Yk 2097151 20 rfl<|Yk 4194303 21 rfl<|Yk 8388607 22 rfl<|Yk 16777215 23 rfl<|Yk 33554431 24 rfl<|Yk 67108863 25 rfl<|Yk 134217727 26 rfl<|Yk 268435455 27 rfl<|Ag (D':=536870911) 28 Y rfl rfl rfl (AL Y Y) ?_;refine Zi 1073741823 29 rfl (AL Y Y)<|Am ?_;refine Zn [1,3,4,62,63,64,133] ?_;refine Zx<|CE Y<|Zq<|Zg<|Za Y<|Z0<|Zx<|A9<|AY<|Zt<|Zt<|AY<|Zt ?_;refine AB rfl results96 Y (by exact ⟨congrArg Value.bool (decide_eq_false (fun h9:Fu x=>by have ha:=(h9.all i r hr).2 hi0 q hq;unfold RN at ha;omega)).symm,rfl⟩)
   first|rw [decide_eq_false hvw]|rw [hvw]|skip
   refine Ag (D':=2047) 10 Y rfl rfl rfl (AJ Y) ?_;refine Ag (D':=4095) 11 Y rfl rfl rfl (AJ Y) ?_;refine Ag (D':=8191) 12 Y rfl rfl rfl (AJ Y) ?_
   (refine Ag (D':=16383) 13 Y rfl rfl rfl (Bg (n:=1) Y Y ?_ ?_) ?_;(focus (first|omega|(simp;omega)));(focus (first|omega|(simp;omega))))
   refine Yw 14 32767 rfl (Zu [_] Y call185 Y rfl (Gd x vp vt hR (by omega) pb (i -1) q hq)) ?_;rintro _ _ ⟨rfl,rfl⟩;refine Ag (D':=65535) 15 Y rfl rfl rfl (CF Y Y) ?_;refine Ag (D':=131071) 16 Y rfl rfl rfl (AJ Y) ?_;refine CS (t:=120) Y (fun hvq=>?_) (fun hvq=>?_)
   ·
    first|rw [decide_eq_true hvq]|rw [hvq]|skip
    refine Ag (D':=262143) 17 Y rfl rfl rfl (AZ (off:=1) underlying113 rfl rfl sizeOf3 Y) ?_;refine Bl (D':=524287) 18 Y rfl rfl rfl Wh (Bf isAgg3 Y (by rfl)) ?_;refine Ag (D':=1048575) 19 Y rfl rfl rfl (AZ (off:=6) underlying49 rfl rfl sizeOf45 Y) ?_;refine Bl (D':=2097151) 20 Y rfl rfl rfl Wh (Bf isAgg45 Y (by rfl)) ?_;refine Ag (D':=4194303) 21 Y rfl rfl rfl (AJ Y) ?_
    (refine Ag (D':=8388607) 22 Y rfl rfl rfl (Bg (n:=1) Y Y ?_ ?_) ?_;(focus (first|omega|(simp;omega)));(focus (first|omega|(simp;omega))))
    refine Ag (D':=16777215) 23 Y rfl rfl rfl (AU underlying45 sizeOf113 Y Y (by first|omega|decide|(simp;done))) ?_;refine Ag (D':=33554431) 24 Y rfl rfl rfl (BH (off:=1) underlying113 rfl rfl sizeOf3 Y) ?_;refine mZ (b:=g) (x:= .cells cur2 T2 zz2) (D':=67108863) 25 Y rfl rfl rfl (by simp [hm29]) (Bf isAgg3 Y (by first|exact hkq|simpa using hkq)) ?_;refine Ag (D':=134217727) 26 Y rfl rfl rfl (Kn Y Y) ?_;refine Ag (D':=268435455) 27 Y rfl rfl rfl (AL Y Y) ?_;refine Ag (D':=536870911) 28 Y rfl rfl rfl (AA Y Y) ?_;refine Zi 1073741823 29 rfl (AL Y Y)<|Am ?_;refine Zn [1,3,4,62,63,64,133] ?_;refine Zx ?_;refine Ao Y (fun hkk=>?_) (fun hkk=>?_)
    ·
     refine Zq<|Zg<|Za Y<|Z0<|Zx<|A9<|AY<|Zt<|Zt<|AY<|Zt ?_;refine AB rfl results96 Y (by exact ⟨congrArg Value.bool (decide_eq_false (fun h9:Fu x=>by have ha:=(h9.all i r hr).2 hi0 q hq;unfold RN at ha;omega)).symm,rfl⟩)
    refine AC<|A8<|Zx<|Zg<|Ya (n:=1) Y Y<|Zm Y<|Z0<|Zn [64,1,3,4,62,63] ?_;refine Ab (e':=[(64,_)]) (by
     exact ⟨i+1,rfl,⟨by omega,fun j r9 hj hr9=>by
      rcases uJ j i with h9|h9
      · exact hall j r9 h9 hr9
      · obtain rfl:j=i:=(by omega)
        rw [hr]at hr9;injection hr9 with hr9;subst hr9
        refine ⟨hfit,fun hj0 q9 hq9=>?_⟩
        (rw [hq]at hq9;injection hq9 with hq9;subst hq9;unfold RN;omega)⟩,rfl,rfl⟩)
   first|rw [decide_eq_false hvq]|rw [hvq]|skip
   refine Yk 262143 17 rfl<|Yk 524287 18 rfl<|Yk 1048575 19 rfl<|Yk 2097151 20 rfl<|Yk 4194303 21 rfl<|Yk 8388607 22 rfl<|Yk 16777215 23 rfl<|Yk 33554431 24 rfl<|Yk 67108863 25 rfl<|Yk 134217727 26 rfl<|Ag (D':=268435455) 27 Y rfl rfl rfl (AA Y Y) ?_;refine Ag (D':=536870911) 28 Y rfl rfl rfl (AA Y Y) ?_;refine Zi 1073741823 29 rfl (AL Y Y)<|Am ?_;refine Zn [1,3,4,62,63,64,133] ?_;refine Zx<|Di Y<|AC<|A8<|Zx<|Zg<|Ya (n:=1) Y Y<|Zm Y<|Z0<|Zn [64,1,3,4,62,63] ?_;refine Ab (e':=[(64,_)]) (by
    exact ⟨i+1,rfl,⟨by omega,fun j r9 hj hr9=>by
     rcases uJ j i with h9|h9
     · exact hall j r9 h9 hr9
     · obtain rfl:j=i:=(by omega)
       rw [hr]at hr9;injection hr9 with hr9;subst hr9
       refine ⟨hfit,fun hj0 q9 hq9=>?_⟩
       (rw [hq]at hq9;injection hq9 with hq9;subst hq9;unfold RN;omega)⟩,rfl,rfl⟩)
  first|rw [decide_eq_false hi0]|rw [hi0]|skip
  refine Yk 15 3 rfl<|Yk 31 4 rfl<|Yk 63 5 rfl<|Yk 127 6 rfl<|Yk 255 7 rfl<|Yk 511 8 rfl<|Yk 1023 9 rfl<|Yk 2047 10 rfl<|Yk 4095 11 rfl<|Yk 8191 12 rfl<|Yk 16383 13 rfl<|Yk 32767 14 rfl<|Yk 65535 15 rfl<|Yk 131071 16 rfl<|Yk 262143 17 rfl<|Yk 524287 18 rfl<|Yk 1048575 19 rfl<|Yk 2097151 20 rfl<|Yk 4194303 21 rfl<|Yk 8388607 22 rfl<|Yk 16777215 23 rfl<|Yk 33554431 24 rfl<|Yk 67108863 25 rfl<|Yk 134217727 26 rfl ?_;refine Yk 268435455 27 rfl<|Yk 536870911 28 rfl<|Zi 1073741823 29 rfl (AA Y Y)<|Am ?_;refine Zn [1,3,4,62,63,64,133] ?_;refine Zx<|Di Y<|AC<|A8<|Zx<|Zg<|Ya (n:=1) Y Y<|Zm Y<|Z0<|Zn [64,1,3,4,62,63] ?_;refine Ab (e':=[(64,_)]) (by
   exact ⟨i+1,rfl,⟨by omega,fun j r9 hj hr9=>by
    rcases uJ j i with h9|h9
    · exact hall j r9 h9 hr9
    · obtain rfl:j=i:=(by omega)
      rw [hr]at hr9;injection hr9 with hr9;subst hr9
      refine ⟨hfit,fun hj0 q9 hq9=>?_⟩
      (exfalso;omega)⟩,rfl,rfl⟩)
 obtain ⟨r0,hr0⟩:∃r,x.rows[0]?=some r:=⟨_,tF (by omega)⟩;obtain ⟨rl,hrl⟩:∃r,x.rows[x.rows.length -1]?=some r:=⟨_,tF (by omega)⟩;have hcomp:Fu x↔(x.fi=0∨Be r0 x.cl<x.lo)∧(x.fi+(x.rows.length:Int)=x.ct∨x.hi<Be rl x.cl):=⟨fun h=>⟨h.first r0 hr0,h.last rl hrl⟩,fun h=>⟨by omega,by omega,by omega,by omega,by omega,fun h0=>absurd h0 hz,fun j r hj=>hall j r (by have:=(tH.1 hj).1;omega) hj,fun r hj=>by rw [hr0]at hj;injection hj with hj;rw [←hj];exact h.1,fun r hj=>by rw [hrl]at hj;injection hj with hj;rw [←hj];exact h.2⟩⟩
 refine Ar<|Zt<|Zt<|AO<|Zx<|Zq<|BI (n:=29) (0::1::3::7::15::31::15::79::255::511::1023::2047::4095::2047::16383::2047::34815::131071::262143::524287::524287::1572863::4194303::524287::8912895::33554431::67108863::134217727::268435455::[]) 4194336 (by kernel_rfl) (by kernel_rfl) rfl ?_;refine Zi 1 0 rfl (AZ (off:=5) underlying49 rfl rfl sizeOf3 Y)<|Zj 3 1 rfl isAgg3 Y ?_;refine Zi 7 2 rfl (CF Y Y)<|Zi 15 3 rfl (AJ Y) ?_;refine CS (t:=138) Y (fun hc16=>?_) (fun hc16=>?_)
 ·
  first|rw [decide_eq_true hc16]|rw [hc16]|skip
  refine Yk 31 4 rfl<|Yk 63 5 rfl<|Yk 127 6 rfl<|Yk 255 7 rfl<|Yk 511 8 rfl<|Zi 1023 9 rfl (AL Y Y)<|Zi 2047 10 rfl (AJ Y)<|Ag (D':=4095) 11 Y rfl rfl rfl (AZ (off:=5) underlying49 rfl rfl sizeOf3 Y) ?_;refine Bl (D':=8191) 12 Y rfl rfl rfl Wh (Bf isAgg3 Y (by rfl)) ?_;refine Ag (D':=16383) 13 Y rfl rfl rfl (AJ Y) ?_
  (refine Ag (D':=32767) 14 Y rfl rfl rfl (JI Y Y (IntWalk.i64_in _ ?_)) ?_;(focus (first|omega|(simp;omega))))
  refine Ag (D':=65535) 15 Y rfl rfl rfl (AZ (off:=4) underlying49 rfl rfl sizeOf3 Y) ?_;refine Bl (D':=131071) 16 Y rfl rfl rfl Wh (Bf isAgg3 Y (by rfl)) ?_;refine Ag (D':=262143) 17 Y rfl rfl rfl (CF Y Y) ?_;refine Ag (D':=524287) 18 Y rfl rfl rfl (AJ Y) ?_;refine CS (t:=153) Y (fun hc17=>?_) (fun hc17=>?_)
  ·
   first|rw [decide_eq_true hc17]|rw [hc17]|skip
   refine Yk 1048575 19 rfl<|Yk 2097151 20 rfl<|Yk 4194303 21 rfl<|Yk 8388607 22 rfl<|Yk 16777215 23 rfl<|Yk 33554431 24 rfl<|Yk 67108863 25 rfl<|Ag (D':=134217727) 26 Y rfl rfl rfl (AL Y Y) ?_;refine Zi 268435455 27 rfl (AL Y Y)<|Zi 536870911 28 rfl (Ay Y)<|Am ?_;refine Zn [2] ?_;refine Zx<|A9 ?_;refine AB rfl results96 Y (by exact ⟨by exact congrArg Value.bool (decide_eq_true (hcomp.2 ⟨by omega,by omega⟩)).symm,rfl⟩)
  first|rw [decide_eq_false hc17]|rw [hc17]|skip
  refine Ag (D':=1048575) 19 Y rfl rfl rfl (AJ Y) ?_;refine Ag (D':=2097151) 20 Y rfl rfl rfl (AJ Y) ?_
  (refine Ag (D':=4194303) 21 Y rfl rfl rfl (Bg (n:=1) Y Y ?_ ?_) ?_;(focus (first|omega|(simp;omega)));(focus (first|omega|(simp;omega))))
  refine Ag (D':=12582911) 23 Y rfl rfl rfl (AZ (off:=3) underlying49 rfl rfl sizeOf3 Y) ?_;refine Bl (D':=29360127) 24 Y rfl rfl rfl Wh (Bf isAgg3 Y (by rfl)) ?_;refine Yz 22 4194303 33554431 [24,16,12,1] [true,false,false,false] [(24,(_,_))] rfl Y rfl rfl rfl rfl (Zu [_] Y call185 Y rfl (Gd x vp vt hR (by omega) pb (x.rows.length -1) rl hrl)) ?_;rintro _ _ ⟨rfl,rfl⟩;refine ⟨Zk (Ad),?_⟩;refine Ag (D':=67108863) 25 Y rfl rfl rfl (Es Y Y) ?_;refine Ag (D':=134217727) 26 Y rfl rfl rfl (AA Y Y) ?_;refine Zi 268435455 27 rfl (AL Y Y)<|Zi 536870911 28 rfl (Ay Y)<|Am ?_;refine Zn [2] ?_;refine Zx<|A9 ?_;refine AB rfl results96 Y (by exact ⟨by exact GU ⟨fun h9=>hcomp.2 ⟨by omega,by omega⟩,fun h9=>by have:=hcomp.1 h9;omega⟩,rfl⟩)
 first|rw [decide_eq_false hc16]|rw [hc16]|skip
 refine Ag (D':=31) 4 Y rfl rfl rfl (AJ Y) ?_;refine Ag (D':=95) 6 Y rfl rfl rfl (AZ (off:=2) underlying49 rfl rfl sizeOf3 Y) ?_;refine Bl (D':=223) 7 Y rfl rfl rfl Wh (Bf isAgg3 Y (by rfl)) ?_;refine Yz 5 31 255 [7,1] [true,false] [(7,(_,_))] rfl Y rfl rfl rfl rfl (Zu [_] Y call185 Y rfl (Gd x vp vt hR (by omega) pb 0 r0 hr0)) ?_;rintro _ _ ⟨rfl,rfl⟩;refine ⟨Zk (Ad),?_⟩;refine Ag (D':=511) 8 Y rfl rfl rfl (Eb Y Y) ?_;refine Zi 1023 9 rfl (AA Y Y)<|Zi 2047 10 rfl (AJ Y) ?_;refine CS (t:=145) Y (fun hc18=>?_) (fun hc18=>?_)
 ·
  first|rw [decide_eq_true hc18]|rw [hc18]|skip
  refine Ag (D':=4095) 11 Y rfl rfl rfl (AZ (off:=5) underlying49 rfl rfl sizeOf3 Y) ?_;refine Bl (D':=8191) 12 Y rfl rfl rfl Wh (Bf isAgg3 Y (by rfl)) ?_;refine Ag (D':=16383) 13 Y rfl rfl rfl (AJ Y) ?_
  (refine Ag (D':=32767) 14 Y rfl rfl rfl (JI Y Y (IntWalk.i64_in _ ?_)) ?_;(focus (first|omega|(simp;omega))))
  refine Ag (D':=65535) 15 Y rfl rfl rfl (AZ (off:=4) underlying49 rfl rfl sizeOf3 Y) ?_;refine Bl (D':=131071) 16 Y rfl rfl rfl Wh (Bf isAgg3 Y (by rfl)) ?_;refine Ag (D':=262143) 17 Y rfl rfl rfl (CF Y Y) ?_;refine Ag (D':=524287) 18 Y rfl rfl rfl (AJ Y) ?_;refine CS (t:=153) Y (fun hc19=>?_) (fun hc19=>?_)
  ·
   first|rw [decide_eq_true hc19]|rw [hc19]|skip
   refine Yk 1048575 19 rfl<|Yk 2097151 20 rfl<|Yk 4194303 21 rfl<|Yk 8388607 22 rfl<|Yk 16777215 23 rfl<|Yk 33554431 24 rfl<|Yk 67108863 25 rfl<|Ag (D':=134217727) 26 Y rfl rfl rfl (AL Y Y) ?_;refine Zi 268435455 27 rfl (AL Y Y)<|Zi 536870911 28 rfl (Ay Y)<|Am ?_;refine Zn [2] ?_;refine Zx<|A9 ?_;refine AB rfl results96 Y (by exact ⟨by exact congrArg Value.bool (decide_eq_true (hcomp.2 ⟨by omega,by omega⟩)).symm,rfl⟩)
  first|rw [decide_eq_false hc19]|rw [hc19]|skip
  refine Ag (D':=1048575) 19 Y rfl rfl rfl (AJ Y) ?_;refine Ag (D':=2097151) 20 Y rfl rfl rfl (AJ Y) ?_
  (refine Ag (D':=4194303) 21 Y rfl rfl rfl (Bg (n:=1) Y Y ?_ ?_) ?_;(focus (first|omega|(simp;omega)));(focus (first|omega|(simp;omega))))
  refine Ag (D':=12582911) 23 Y rfl rfl rfl (AZ (off:=3) underlying49 rfl rfl sizeOf3 Y) ?_;refine Bl (D':=29360127) 24 Y rfl rfl rfl Wh (Bf isAgg3 Y (by rfl)) ?_;refine Yz 22 4194303 33554431 [24,16,12,7] [true,false,false,false] [(24,(_,_))] rfl Y rfl rfl rfl rfl (Zu [_] Y call185 Y rfl (Gd x vp vt hR (by omega) pb (x.rows.length -1) rl hrl)) ?_;rintro _ _ ⟨rfl,rfl⟩;refine ⟨Zk (Ad),?_⟩;refine Ag (D':=67108863) 25 Y rfl rfl rfl (Es Y Y) ?_;refine Ag (D':=134217727) 26 Y rfl rfl rfl (AA Y Y) ?_;refine Zi 268435455 27 rfl (AL Y Y)<|Zi 536870911 28 rfl (Ay Y)<|Am ?_;refine Zn [2] ?_;refine Zx<|A9 ?_;refine AB rfl results96 Y (by exact ⟨by exact GU ⟨fun h9=>hcomp.2 ⟨by omega,by omega⟩,fun h9=>by have:=hcomp.1 h9;omega⟩,rfl⟩)
 first|rw [decide_eq_false hc18]|rw [hc18]|skip
 refine Yk 4095 11 rfl<|Yk 8191 12 rfl<|Yk 16383 13 rfl<|Yk 32767 14 rfl<|Yk 65535 15 rfl<|Yk 131071 16 rfl<|Yk 262143 17 rfl<|Yk 524287 18 rfl<|Yk 1048575 19 rfl<|Yk 2097151 20 rfl<|Yk 4194303 21 rfl<|Yk 8388607 22 rfl<|Yk 16777215 23 rfl<|Yk 33554431 24 rfl<|Yk 67108863 25 rfl<|Yk 134217727 26 rfl<|Zi 268435455 27 rfl (AA Y Y)<|Zi 536870911 28 rfl (Ay Y)<|Am ?_;refine Zn [2] ?_;refine Zx<|A9 ?_;refine AB rfl results96 Y (by exact ⟨by exact congrArg Value.bool (decide_eq_false (fun h9=>by have:=hcomp.1 h9;omega)).symm,rfl⟩)
def inB(x:RP)(r:AP):Bool:=decide (x.lo≤Be r x.cl∧Be r x.cl≤x.hi)
noncomputable def ED(x:RP):List AP:=if Fu x then x.rows.filter (inB x)else []
theorem XY{x:RP}(h:Fu x):ED x=x.rows.filter (inB x):=if_pos h
theorem oo{x:RP}(h:¬Fu x):ED x=[]:=if_neg h
theorem kE{x:RP}{i:Nat}{r:AP}(hr:x.rows[i]?=some r)(h:inB x r=true):(x.rows.take (i+1)).filter (inB x)=(x.rows.take i).filter (inB x)++[r]:=by rw [Bo hr,um];simp [h]
theorem Uc{x:RP}{i:Nat}{r:AP}(hr:x.rows[i]?=some r)(h:inB x r=false):(x.rows.take (i+1)).filter (inB x)=(x.rows.take i).filter (inB x):=by rw [Bo hr,um];simp [h]
set_option maxHeartbeats 4000000 in
theorem bC{M:List AR}{v:Value}{x:RP}(hv:PP M v x):CO Tryz.prog 37 #[v] [M] (fun r H'=>∃vr sr,r= .tuple #[vr,.bool (decide (Fu x))]∧BX 5 113 vr (ED x).length (Ac (ED x)) sr∧H'=[sr,M]):=by
 have hml:=mL;obtain ⟨vr,vp,vt,rfl,hR,hP,hT⟩:=id hv;obtain ⟨p,cap,e9,hl,hg⟩:=id hR;subst e9;refine Se func37 ntmps37 [0] ?_;intro u R;refine Zq<|Zg<|Ze (Bx #[_,_,_,_,_,_,_,_,_]) ?_;rintro _ _ ⟨pb,rfl,rfl⟩;refine Za Y<|Za Y<|Z0<|Zx<|Zq<|Zq<|Zg<|Zo Wh (Pa #[I4 x.tb,I4 x.cl,I4 x.lo,I4 x.hi,I4 x.ct,I4 x.fi,.slice p x.rows.length cap,vp,vt] isAgg49 sizeOf49 Y) ?_;refine Xr [_] Y call96 Y rfl (M6 hv) ?_;refine Zv (CB Y)<|Z0<|Zx ?_;refine Ao Y (fun hcm=>?_) (fun hcm=>?_)
 ·
  refine Bd ?_;refine Zq<|Zg<|Za Y<|Za Y<|Z0<|Zx<|A9<|Zt ?_;refine Da rfl results37 Y Y (by exact ⟨.slice none 0 0,[],by rw [decide_eq_false hcm],by rw [oo hcm];exact BV 5 _,rfl⟩)
 have hcm:=uH.1 hcm;have hc1:=hcm.tc
 have hc2:=hcm.ct;have hc3:=hcm.n
 have hc4:=hcm.fi;refine AC<|Zx<|Zq<|Zg<|Za Y<|Z0<|Zx<|Zq<|Zq<|Zg<|Zh 6 underlying49 rfl rfl sizeOf45 Y<|Zl isAgg45 Y ?_;refine Zv (AV underlying45 Y)<|Zm Y<|Z0<|Zx<|AQ<|Bd ?_;refine Zb [4,14,1,12,13] ?_;refine Az (e0:=[(4,_),(14,_)]) (fun m e H=>∃(i:Nat) (vo:Value) (so:List AR),m=x.rows.length -i∧(i≤x.rows.length∧BX 5 113 vo ((x.rows.take i).filter (inB x)).length (Ac ((x.rows.take i).filter (inB x))) so)∧e=[(4,vo),(14,I4 (i:Int))]∧H=[so]) (by exact ⟨0,.slice none 0 0,[],rfl,⟨tX _,by rw [ut];exact BV 5 _⟩,rfl,rfl⟩) Wp ?_;rintro _ _ _ ⟨i,vo,so,rfl,⟨hi,hro⟩,rfl,rfl⟩;obtain ⟨qo,co,rfl⟩:=hro.form;have hfl:((x.rows.take i).filter (inB x)).length≤i:=xk (wG _ _) (xR _ _)
 refine Zq<|Zg<|Zv (Aq Y Y)<|Z0<|Zx<|Zq ?_;refine Ao Y (fun hlt=>?_) (fun hlt=>?_)
 ·
  obtain ⟨r,hr⟩:∃r,x.rows[i]?=some r:=⟨_,tF hlt⟩;obtain ⟨g,off,cur,T,zz,rfl,hm9,hsz9,hex9⟩:=hg i r hr;refine AC<|Zx<|Zq<|AQ<|Zq<|Zg ?_;refine BM (AU underlying45 sizeOf113 Y Y (by first|omega|decide|(simp;done))) ?_;refine Cf (cs:=[(g,.cells cur T zz)]) (by simp [hm9]) (AX (cs:=#[I4 r.t,I4 r.k,I4 r.v.a,I4 r.v.b,I4 r.v.c]) isAgg113 sizeOf113 Y (by omega) hex9) rfl rfl ?_;refine Ze (Al zeroValue113 #[_,_,_,_,_]) ?_;rintro _ _ ⟨rb,rfl,rfl⟩;refine Xe (Xw sizeOf113 #[I4 r.t,I4 r.k,I4 r.v.a,I4 r.v.b,I4 r.v.c]) ?_;refine Z0<|Zx<|Zq<|Zg<|Zo Wh (Pa #[_,_,_,_,_] isAgg113 sizeOf113 Y) ?_;refine Zh 1 underlying49 rfl rfl sizeOf3 Y<|Zl isAgg3 Y ?_;refine Xr [_,_] Y call97 Y rfl (FQ r x.cl (by omega)) ?_;refine Za Y<|Z0<|Zx<|Zq<|Zg<|Zm Y<|Zh 2 underlying49 rfl rfl sizeOf3 Y<|Zl isAgg3 Y ?_;refine Zv (GZ Y Y)<|Zm Y ?_;refine Aj (t:=26) Y rfl (fun hg1=>?_) (fun hg1=>?_)
  ·
   refine Zf Y Y<|Yf 3 underlying49 rfl rfl sizeOf3 Y<|Yl isAgg3 Y ?_;refine Yg (Kn Y Y)<|Zv (AL Y Y)<|Z0<|Zn [1,4,6,12,13,14,31] ?_;refine Zx ?_;refine Ao Y (fun hg2=>?_) (fun hg2=>?_)
   ·
    have hin:inB x r=true:=decide_eq_true (by omega);refine Zg<|Zm Y<|Zo Wh (Pa #[_,_,_,_,_] isAgg113 sizeOf113 Y) ?_;refine Ze (Ae (vs:=[_]) (cs:=[_,_,_,_,_]) underlying45 sizeOf113 zeroValue113 Y rfl rfl rfl rfl rfl) ?_;rintro _ _ ⟨gb,rfl,rfl⟩;refine Ze (BR (by_:=40) (sz:=5) underlying45 (rfl:Tryz.prog.info? 113=some Tryz.t113) rfl rfl rfl rfl Y (hro) Y (DY 5 gb 1 1 113 (0,0) [I4 r.t,I4 r.k,I4 r.v.a,I4 r.v.b,I4 r.v.c] rfl) Wo Wo (by simp [Value.oneCell']) (by omega) (by omega)) ?_;rintro _ _ ⟨sa9,hra9,rfl⟩;obtain ⟨ga9,ca9,rfl⟩:=hra9.form;refine Za Y<|Z0<|A8<|Zx<|Zg<|Ya (n:=1) Y Y<|Zm Y<|Z0<|Zn [4,14,1,12,13] ?_;refine Ab (e':=[(4,_),(14,_)]) (by exact ⟨i+1,_,_,rfl,⟨by omega,BO hra9 (by rw [kE hr hin,tK];rfl) (by rw [kE hr hin,BZ];rfl)⟩,rfl,rfl⟩)
   have hin:inB x r=false:=decide_eq_false (by omega);refine AC<|A8<|Zx<|Zg<|Ya (n:=1) Y Y<|Zm Y<|Z0<|Zn [4,14,1,12,13] ?_;refine Ab (e':=[(4,_),(14,_)]) (by exact ⟨i+1,_,so,rfl,⟨by omega,BO hro (by rw [Uc hr hin]) (by rw [Uc hr hin])⟩,rfl,rfl⟩)
  have hin:inB x r=false:=decide_eq_false (by omega);refine A7 Y rfl<|A7 Y rfl<|A7 Y rfl<|A7 Y rfl<|Zv (AA Y Y)<|Z0<|Zn [1,4,6,12,13,14,31] ?_;refine Zx<|Di Y<|AC<|A8<|Zx<|Zg<|Ya (n:=1) Y Y<|Zm Y<|Z0<|Zn [4,14,1,12,13] ?_;refine Ab (e':=[(4,_),(14,_)]) (by exact ⟨i+1,_,so,rfl,⟨by omega,BO hro (by rw [Uc hr hin]) (by rw [Uc hr hin])⟩,rfl,rfl⟩)
 have ei:i=x.rows.length:=by omega
 subst ei;rw [uQ]at hro⊢;refine Ar<|Zt<|Zt<|AO<|Zx<|Zq<|Zg<|Zm Y<|Za Y<|Za Y<|Z0<|Zx<|A9 ?_;refine Da rfl results37 Y Y (by exact ⟨.slice qo _ co,so,by rw [decide_eq_true hcm],by rw [XY hcm];exact hro,rfl⟩)
end Go.Proofs.YtkdgffcfmgmemaaGreatDoor
