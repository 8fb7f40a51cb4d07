/- statetree: Verify. -/
/- statetree: Same; SameRows; the Same of the reference of layer 2. -/
/- What Prove returns is complete, right, and about the rows of the range: in plain words. -/
/- The integers that a law picks; the rows of a log. -/
/- The fixed example of the law of chapter 10: its rows, and its digests. -/
/- sane of the law of chapter 10. -/
/- What the rows list and what the arguments read as, in chunks. -/
import Derived.Test.YtkdgffcfmgmemaaGreatDoorEz
import Derived.Test.YtkdgffcfmgmemaaGreatDoorTr8
import Derived.Test.YtkdgffcfmgmemaaGreatDoorEx22
import Derived.Test.YtkdgffcfmgmemaaGreatDoorTr3
import Derived.ProofKit
import Derived.OpenShut
import Derived.ChangeOld
import Derived.Deep.Slices
import Derived.SliceStrings
import Derived.Lib.LaidTab
import Derived.Test.YtkdgffcfmgmemaaGreatDoorRows
set_option linter.unusedVariables false
set_option linter.unusedSimpArgs false
namespace Go.Proofs.YtkdgffcfmgmemaaGreatDoor
open Go.Proofs.Tryz
open Go Go.RowKit Gw
set_option maxRecDepth 100000
attribute [local irreducible] Gw.At Gw.Nx Gw.Ops
structure Nu(root:Bs)(x:RP):Prop where
 comp:GA x
 n16:x.roots.length=16
 np:x.paths.length=x.rows.length
 root:Cu x.roots=root
 sum:∃d:Bs,d.length=32∧x.roots[4*x.tb.toNat+x.cl.toNat]?=some (LQ x.ct++d)∧(x.ct=0→d=Cu [])∧
  (x.ct≠0→∀(k:Nat) (r:AQ) (pf:List Bs),x.rows[k]?=some r→x.paths[k]?=some pf→Rj d x.ct.toNat (x.fi.toNat+k) (JI r) pf=true)
noncomputable instance(root:Bs)(x:RP):Decidable (Nu root x):=Classical.propDecidable _
theorem Gq{root:Bs}{x:RP}(h:¬Nu root x):Value.bool false=Value.bool (decide (Nu root x)):=congrArg Value.bool (decide_eq_false h).symm
theorem NF{a b:Bs}(h:str a=str b):a=b:=by rw [←Hr a,←Hr b,h]
theorem mJ(a b:Bs):(str (a++b)).extract 0 (str a).size=str a:=by
 apply ByteArray.ext;rw [zH,Bc];simp [str]
theorem gX(a b:Bs):(str (a++b)).extract (str a).size (str (a++b)).size=str b:=by
 apply ByteArray.ext;rw [zH,Bc,Bc];simp [str]
theorem pu{s n:Bs}(h:(str s).extract 0 (str n).size=str n):∃d,s=n++d:=by
 have h1:((str s).extract 0 (str n).size).data.toList=n:=by rw [h,Hr]
 rw [zH,Bc]at h1;refine ⟨s.drop n.length,?_⟩;conv=>lhs;rw [←uw n.length s]
 congr 1;simp [str]at h1;exact h1
theorem Xf(M:List AU):Du M (.slice none 0 0) []:=⟨none,0,rfl,⟨by simp,by simp⟩,by intro i s h;simp at h⟩
theorem Uj{n:Int}(h:0≤n):∃k:Nat,n=(k:Int):=⟨n.toNat,by omega⟩
set_option maxHeartbeats 4000000 in
theorem UH{M:List AU}{v:Value}{x:RP}(hv:Ph M v x)(hroots:∀s∈x.roots,s.length≤140737488354000)(hpaths:∀l∈x.paths,l.length≤1000000)(root:Bs)(Tg:TypeId)(zg:Nat×Nat):Az Tryz.prog 41 #[.string (str root),v] [[(1,.cells (DC.map Bp).toArray Tg zg)],M] (.bool (decide (Nu root x))):=by
 have hml:=mL;obtain ⟨vr,vp,vt,rfl,hR,hP,hT⟩:=id hv;obtain ⟨p,cap,e9,hl,hg⟩:=id hR;subst e9;obtain ⟨p3,cap3,e39,hl3,hg3⟩:=id hP;subst e39;obtain ⟨p4,cap4,e49,hl4,hg4⟩:=id hT;subst e49;refine Se func41 ntmps41 [0,1] ?_;intro u R;refine Zq<|Zg<|Ze (Bx #[_,_,_,_,_,_,_,_,_]) ?_;rintro _ _ ⟨pb,rfl,rfl⟩;refine Za Y<|Z0<|Zx<|Zq<|Zq<|Zg<|Zo Wh (Pa #[I4 x.tb,I4 x.cl,I4 x.lo,I4 x.hi,I4 x.ct,I4 x.fi,.slice p x.rows.length cap,.slice p3 x.paths.length cap3,.slice p4 x.roots.length cap4] isAgg49 sizeOf49 Y) ?_;refine Xr [_] Y call96 Y rfl (MO hv) ?_;refine Zv (CL Y)<|Zm Y ?_;refine Aj (t:=16) Y rfl (fun hcm=>?_) (fun hcm=>?_)
 ·
  refine A7 Y rfl<|A7 Y rfl<|A7 Y rfl<|A7 Y rfl<|Zv (AO Y Y)<|Zm Y<|A7 Y rfl<|A7 Y rfl<|A7 Y rfl<|A7 Y rfl<|A7 Y rfl<|A7 Y rfl<|A7 Y rfl<|Zv (AO Y Y)<|Zm Y<|A7 Y rfl<|A7 Y rfl<|A7 Y rfl<|A7 Y rfl<|A7 Y rfl<|Zv (AO Y Y)<|Z0<|Zn [3,37] ?_;refine Zx<|CP Y<|Zq<|Zg<|Za Y<|Z0<|Zx<|AA<|Zt ?_;refine AJ rfl results41 Y (by exact ⟨Gq (fun h9=>by have h91:=h9.comp;have h92:=h9.n16;have h93:=h9.np;have h94:=h9.root;contradiction),rfl⟩)
 refine Yf 8 underlying49 rfl rfl sizeOf47 Y<|Yl isAgg47 Y ?_;refine Yg (AV underlying47 Y)<|Yg (Dj (n:=16) Y Y)<|Zv (AC Y Y)<|Zm Y ?_;refine Aj (t:=22) Y rfl (fun hc16=>?_) (fun hc16=>?_)
 ·
  refine A7 Y rfl<|A7 Y rfl<|A7 Y rfl<|A7 Y rfl<|A7 Y rfl<|A7 Y rfl<|A7 Y rfl<|Zv (AO Y Y)<|Zm Y<|A7 Y rfl<|A7 Y rfl<|A7 Y rfl<|A7 Y rfl<|A7 Y rfl<|Zv (AO Y Y)<|Z0<|Zn [3,37] ?_;refine Zx<|CP Y<|Zq<|Zg<|Za Y<|Z0<|Zx<|AA<|Zt ?_;refine AJ rfl results41 Y (by exact ⟨Gq (fun h9=>by have h91:=h9.comp;have h92:=h9.n16;have h93:=h9.np;have h94:=h9.root;contradiction),rfl⟩)
 refine Yf 7 underlying49 rfl rfl sizeOf46 Y<|Yl isAgg46 Y ?_;refine Yg (AV underlying46 Y)<|Yf 6 underlying49 rfl rfl sizeOf45 Y<|Yl isAgg45 Y ?_;refine Yg (AV underlying45 Y)<|Yg (Dj Y Y)<|Zv (AC Y Y)<|Zm Y ?_;refine Aj (t:=31) Y rfl (fun hcnp=>?_) (fun hcnp=>?_)
 ·
  refine A7 Y rfl<|A7 Y rfl<|A7 Y rfl<|A7 Y rfl<|A7 Y rfl<|Zv (AO Y Y)<|Z0<|Zn [3,37] ?_;refine Zx<|CP Y<|Zq<|Zg<|Za Y<|Z0<|Zx<|AA<|Zt ?_;refine AJ rfl results41 Y (by exact ⟨Gq (fun h9=>by have h91:=h9.comp;have h92:=h9.n16;have h93:=h9.np;have h94:=h9.root;contradiction),rfl⟩)
 refine Yf 8 underlying49 rfl rfl sizeOf47 Y<|Yl isAgg47 Y ?_;refine Xr [_] Y call100 Y rfl (Jp hT (by omega) hroots Tg zg) ?_;refine Zf Y Y<|Yg (OV Y Y)<|Zv (AC Y Y)<|Z0<|Zn [3,37] ?_;refine Zx ?_;refine Aq Y (fun hrt=>?_) (fun hrt=>?_)
 ·
  refine Zq<|Zg<|Za Y<|Z0<|Zx<|AA<|Zt ?_;refine AJ rfl results41 Y (by exact ⟨Gq (fun h9=>by have h91:=h9.comp;have h92:=h9.n16;have h93:=h9.np;have h94:=h9.root;exact hrt (by rw [h94])),rfl⟩)
 have hcm:=uS.1 hcm;obtain ⟨⟨⟨ht0,ht4⟩,hc0,hc4⟩,_,⟨hn0,hn2⟩,⟨hf0,hf1⟩,hnn,_⟩:=id hcm;obtain ⟨tn,htn⟩:=Uj ht0;obtain ⟨cn,hcn⟩:=Uj hc0;obtain ⟨nn,hnt⟩:=Uj hn0;obtain ⟨fn,hfn⟩:=Uj hf0;obtain ⟨s9,hs9⟩:∃s,x.roots[4*tn+cn]?=some s:=⟨_,tq (by omega)⟩;have hrt2:Cu x.roots=root:=NF (uS.1 hrt)
 rw [htn,hcn,hnt,hfn];obtain ⟨g4,off4,cur4,T4,zz4,rfl,hm9,hex9⟩:=hg4 _ s9 hs9;have hel:=Gf (nn:Int) (by omega) (by omega)
 have hss:=Bc s9;have hse:=Bc (LQ (nn:Int))
 have hsl:=hroots s9 (uI hs9);have hidx:4*x.tb.toNat+x.cl.toNat=4*tn+cn:=by omega
 refine AB<|Zx<|Zq<|Zg<|Zh 4 underlying49 rfl rfl sizeOf3 Y<|Zl isAgg3 Y ?_;refine Xr [_] Y call102 Y rfl (L8 (nn:Int) (by omega) (by omega)) ?_;refine Zm Y<|Zd Y rfl<|Zd Y rfl<|Za Y<|Za Y<|Z0<|Zx<|Zq<|Zg<|Zh 8 underlying49 rfl rfl sizeOf47 Y<|Zl isAgg47 Y ?_;refine Zh 0 underlying49 rfl rfl sizeOf3 Y<|Zl isAgg3 Y ?_;refine BO (DF (m:=4) Y Y (by first|omega|(simp;omega))) ?_;refine Zh 1 underlying49 rfl rfl sizeOf3 Y<|Zl isAgg3 Y ?_;refine BO (DJ Y Y (by first|omega|(simp;omega))) ?_;refine BO (BV underlying47 sizeOf9 Y Y (by first|omega|decide|(simp;done))) ?_;refine Cm (cs:=[(g4,.cells cur4 T4 zz4)]) (by simp [hm9]) (Bh isAgg9 Y (by exact hex9)) rfl rfl ?_;refine Za Y<|Z0<|Zn [3,5,7] ?_;refine Zx<|Zq<|Zq<|Zg<|Zm Y<|Zv (ER underlying9 Y)<|Zm Y<|Zv (ER underlying9 Y)<|Ya (n:=32) Y Y<|Zv (Dj Y Y)<|Zm Y ?_;refine Aj (t:=60) Y rfl (fun hsz=>?_) (fun hsz=>?_)
 ·
  refine A7 Y rfl<|A7 Y rfl<|A7 Y rfl<|A7 Y rfl<|A7 Y rfl<|A7 Y rfl<|Zv (AO Y Y)<|Z0<|Zn [3,5,7,67] ?_;refine Zx<|CP Y<|Zq<|Zg<|Za Y<|Z0<|Zx<|AA<|Zt ?_;refine AJ rfl results41 Y (by exact ⟨Gq (fun h9=>by obtain ⟨d,hd,hd2,_⟩:=h9.sum;rw [hidx,hs9,hnt]at hd2;injection hd2 with hd2;subst hd2;exact hsz (by rw [hss,hse,u6,hd])),rfl⟩)
 refine Zf Y Y<|Zf Y Y<|Yg (ER underlying9 Y) ?_
 (refine Fg Y (Qj underlying9 Y Y ?_) rfl rfl ?_;(focus (first|omega|(simp;omega))))
 refine Zf Y Y<|Yg (OV Y Y)<|Zv (AC Y Y)<|Z0<|Zn [3,5,7,67] ?_;refine Zx ?_;refine Aq Y (fun hpx=>?_) (fun hpx=>?_)
 ·
  refine Zq<|Zg<|Za Y<|Z0<|Zx<|AA<|Zt ?_;refine AJ rfl results41 Y (by exact ⟨Gq (fun h9=>by obtain ⟨d,hd,hd2,_⟩:=h9.sum;rw [hidx,hs9,hnt]at hd2;injection hd2 with hd2;subst hd2;exact hpx (mJ _ _)),rfl⟩)
 obtain ⟨d9,rfl⟩:=pu (uS.1 hpx);have hd32:d9.length=32:=by rw [hse,Bc,u6]at hsz;omega
 refine AB<|Zx<|Zq<|Zg<|Zm Y<|Zm Y<|Zv (ER underlying9 Y) ?_;refine BO (OP underlying9 Y Y (by rw [Bc,Bc,u6];omega)) ?_;refine Za Y<|Z0<|Zx<|Zq<|Zq ?_;rw [gX];refine Zg<|Zh 4 underlying49 rfl rfl sizeOf3 Y<|Zl isAgg3 Y ?_;refine Zv (CF (n:=0) Y Y)<|Z0<|Zx ?_;refine Aq Y (fun hz=>?_) (fun hz=>?_)
 ·
  refine Zq<|Zg<|Zm Y<|Xr [_] Y call100 Y rfl (Jp (Xf M) (by simp) (by simp) Tg zg) ?_;refine Zv (OZ Y Y)<|Za Y<|Z0<|Zx<|AA<|Zt ?_;refine AJ rfl results41 Y (by exact ⟨Gg ⟨fun h9=>⟨hcm,by omega,by omega,hrt2,d9,hd32,by rw [hidx,hs9,hnt],fun _=>NF h9,fun h0=>by omega⟩,fun h9=>by obtain ⟨d,hd,hd2,hd3,_⟩:=h9.sum;rw [hidx,hs9,hnt]at hd2;injection hd2 with hd2;rw [List.append_cancel_left hd2,hd3 (by omega)]⟩,rfl⟩)
 refine AB<|Zx<|Zq<|Zq<|Zg<|Zh 6 underlying49 rfl rfl sizeOf45 Y<|Zl isAgg45 Y ?_;refine Zv (AV underlying45 Y)<|Zm Y<|Z0<|Zx<|AR<|Zb [81,3,8,79,80] ?_;refine BB (e0:=[(81,_)]) (fun m e H=>∃(k:Nat),m=x.rows.length -k∧(k≤x.rows.length∧∀(j:Nat) (r:AQ) (pf:List Bs),j<k→x.rows[j]?=some r→x.paths[j]?=some pf→Rj d9 nn (fn+j) (JI r) pf=true)∧e=[(81,I4 (k:Int))]∧H=[]) (by exact ⟨0,rfl,⟨uK _,by intro j r pf hj;omega⟩,rfl,rfl⟩) Wp ?_;rintro _ _ _ ⟨k,rfl,⟨hk,hall⟩,rfl,rfl⟩;refine Zq<|Zg<|Zv (Av Y Y)<|Z0<|Zx<|Zq ?_;refine Aq Y (fun hlt=>?_) (fun hlt=>?_)
 ·
  obtain ⟨r,hr⟩:∃r,x.rows[k]?=some r:=⟨_,tq hlt⟩;obtain ⟨g,off,cur,T,zz,rfl,hm99,hsz9,hex99⟩:=hg k r hr;obtain ⟨pf,hpf⟩:∃pf,x.paths[k]?=some pf:=⟨_,tq (by omega)⟩;obtain ⟨q6,c6,hu6,g6,off6,cur6,T6,zz6,rfl,hm6,hex6⟩:=hg3 k pf hpf;have hro:=(hcm.all k r hr).1.1
  refine AB<|Zx<|Zq<|AR<|Zq<|Zg<|Zm Y ?_;refine BO (Ac underlying45 sizeOf113 Y Y (by first|omega|decide|(simp;done))) ?_;refine Cm (cs:=[(g,.cells cur T zz)]) (by simp [hm99]) (AZ (cs:=#[I4 r.t,I4 r.k,I4 r.v.a,I4 r.v.b,I4 r.v.c]) isAgg113 sizeOf113 Y (by omega) hex99) rfl rfl ?_;refine Ze (Al zeroValue113 #[_,_,_,_,_]) ?_;rintro _ _ ⟨rb,rfl,rfl⟩;refine Za Y<|Xe (Xw sizeOf113 #[I4 r.t,I4 r.k,I4 r.v.a,I4 r.v.b,I4 r.v.c]) ?_;refine Z0<|Zx<|Zq<|Zg<|Zo Wh (Pa #[_,_,_,_,_] isAgg113 sizeOf113 Y) ?_;refine Xr [_] Y call103 Y rfl (Sv r hro) ?_;refine Zm Y<|Zd Y rfl<|Zd Y rfl<|Za Y<|Za Y<|Z0<|Zn [3,8,9,11,79,80,81] ?_;refine Zx<|Zq<|BK (n:=15) (0::0::2::0::8::0::56::0::0::256::0::1792::3840::8191::16383::[]) 8192 (by kernel_rfl) (by kernel_rfl) rfl ?_;refine Zi 1 0 rfl (AL Y)<|Zi 3 1 rfl (AY (off:=4) underlying49 rfl rfl sizeOf3 Y)<|Zj 7 2 rfl isAgg3 Y ?_;refine Zi 15 3 rfl (AY (off:=5) underlying49 rfl rfl sizeOf3 Y)<|Zj 31 4 rfl isAgg3 Y ?_;refine Zi 63 5 rfl (AL Y) ?_;refine Zi 127 6 rfl (DJ Y Y (by first|omega|(simp;omega))) ?_;refine Zi 255 7 rfl (AL Y)<|Zi 511 8 rfl (AY (off:=7) underlying49 rfl rfl sizeOf46 Y)<|Zj 1023 9 rfl isAgg46 Y ?_;refine Zi 2047 10 rfl (AL Y) ?_;refine Zi 4095 11 rfl (BV underlying46 sizeOf47 Y Y (by first|omega|decide|(simp;done))) ?_;refine G6 (b:=g6) (x:= .cells cur6 T6 zz6) (D':=8191) 12 rfl rfl rfl (by simp [hm6]) (Bh isAgg47 Y (by exact hex6)) ?_;refine Yw 13 16383 rfl (Zu [_,_,_,_,_] Y call104 Y rfl (VQ hu6 (hpaths pf (uI hpf)) d9 (JI r) (by have:=RS hro;omega) nn (fn+k) (by omega) (by omega) Tg zg)) ?_;rintro _ _ ⟨rfl,rfl⟩;refine Zi 32767 14 rfl (Cg Y)<|Ao ?_;refine Zn [3,8,79,80,81,105] ?_;refine Zx ?_;refine Ag Y (fun hvf=>?_) (fun hvf=>?_)
  ·
   refine Zq<|Zg<|Za Y<|Z0<|Zx<|AA<|AX<|Zt<|Zt<|AX<|Zt ?_;refine AJ rfl results41 Y (by exact ⟨Gq (fun h9=>by obtain ⟨d,hd,hd2,_,hd4⟩:=h9.sum;rw [hidx,hs9,hnt]at hd2;injection hd2 with hd2;have hd3:=List.append_cancel_left hd2;have h5:=hd4 (by omega) k r pf hr hpf;rw [←hd3,show x.ct.toNat=nn by omega,show x.fi.toNat=fn by omega]at h5;simp [h5]at hvf),rfl⟩)
  refine AB<|A8<|Zx<|Zg<|Ya (n:=1) Y Y<|Zm Y<|Z0<|Zn [81,3,8,79,80] ?_;refine Aa (e':=[(81,_)]) (by
   exact ⟨k+1,rfl,⟨by omega,fun j r9 pf9 hj hr9 hp9=>by
    rcases uU j k with h9|h9
    · exact hall j r9 pf9 h9 hr9 hp9
    · obtain rfl:j=k:=(by omega)
      rw [hr]at hr9;injection hr9 with hr9;subst hr9
      rw [hpf]at hp9;injection hp9 with hp9;subst hp9
      simpa using hvf⟩,rfl,rfl⟩)
 refine Aw<|Zt<|Zt<|AP<|Zx<|Zq<|Zg<|Za Y<|Z0<|Zx<|AA ?_;refine AJ rfl results41 Y (by exact ⟨congrArg Value.bool (decide_eq_true (show Nu root x from⟨hcm,by omega,by omega,hrt2,d9,hd32,by rw [hidx,hs9,hnt],fun h0=>by omega,fun h0 j r pf hj hp=>by rw [show x.ct.toNat=nn by omega,show x.fi.toNat=fn by omega];exact hall j r pf (by have:=(tu.1 hj).1;omega) hj hp⟩)).symm,rfl⟩)
theorem X7{M:List AU}{va vb:Value}{a b:List Bs}(ha:Du M va a)(hb:Du M vb b):Az Tryz.prog 160 #[va,vb] [M] (.bool (decide (a=b))):=by
 have hml:=mL;obtain ⟨pa,ca,rfl,hla,hga⟩:=ha;obtain ⟨pb,cb,rfl,hlb,hgb⟩:=hb;refine Se func160 ntmps160 [0,1] ?_;intro u R;refine Zq<|Zg<|Za Y<|Z0<|Zx<|Zq<|Zq<|Zg<|Zm Y<|Zv (AV underlying47 Y)<|Zm Y<|Zv (AV underlying47 Y)<|Zv (Dj Y Y)<|Z0<|Zx ?_;refine Aq Y (fun hne=>?_) (fun hne=>?_)
 ·
  refine Zq<|Zg<|Za Y<|Z0<|Zx<|AA<|Zt ?_;refine AJ rfl results160 Y (by exact ⟨ED (fun e=>hne (by rw [e])),rfl⟩)
 have hle:a.length=b.length:=by omega
 refine AB<|Zx<|Zq<|Zq<|Zg<|Zm Y<|Zv (AV underlying47 Y)<|Zm Y<|Z0<|Zx<|AR<|Zb [13,0,1,12] ?_;refine BB (e0:=[(13,_)]) (fun m e H=>∃(i:Nat),m=a.length -i∧(i≤a.length∧∀j,j<i→a[j]?=b[j]?)∧e=[(13,I4 (i:Int))]∧H=[]) (by exact ⟨0,rfl,⟨uK _,by intro j hj;omega⟩,rfl,rfl⟩) Wp ?_;rintro _ _ _ ⟨i,rfl,⟨hi,hall⟩,rfl,rfl⟩;refine Zq<|Zg<|Zv (Av Y Y)<|Z0<|Zx<|Zq ?_;refine Aq Y (fun hlt=>?_) (fun hlt=>?_)
 ·
  obtain ⟨x,hx⟩:∃x,a[i]?=some x:=⟨_,tq (by omega)⟩;obtain ⟨y,hy⟩:∃y,b[i]?=some y:=⟨_,tq (by omega)⟩;obtain ⟨g1,off1,cur1,T1,zz1,rfl,hm1,hex1⟩:=hga i x hx;obtain ⟨g2,off2,cur2,T2,zz2,rfl,hm2,hex2⟩:=hgb i y hy;refine AB<|Zx<|Zq<|AR<|Zq<|Zg<|Zm Y<|Za Y<|Z0<|Zx<|Zq<|BK (n:=9) (0::0::3::7::0::0::48::112::255::[]) 0 (by kernel_rfl) (by kernel_rfl) rfl ?_;refine Zi 1 0 rfl (AL Y)<|Zi 3 1 rfl (AL Y) ?_;refine Zi 7 2 rfl (BV underlying47 sizeOf9 Y Y (by omega)) ?_;refine G6 (b:=g1) (x:= .cells cur1 T1 zz1) (D':=15) 3 rfl rfl rfl (by simp [hm1]) (Bh isAgg9 Y (by exact hex1)) ?_;refine Zi 31 4 rfl (AL Y)<|Zi 63 5 rfl (AL Y) ?_;refine Zi 127 6 rfl (BV underlying47 sizeOf9 Y Y (by omega)) ?_;refine G6 (b:=g2) (x:= .cells cur2 T2 zz2) (D':=255) 7 rfl rfl rfl (by simp [hm2]) (Bh isAgg9 Y (by exact hex2)) ?_;refine Zi 511 8 rfl (OV Y Y)<|Ao ?_;refine Zx ?_;refine Aq Y (fun hd=>?_) (fun hd=>?_)
  ·
   refine Zq<|Zg<|Za Y<|Z0<|Zn [4] ?_;refine Zx<|AA<|AX<|Zt<|Zt<|AX<|Zt ?_;refine AJ rfl results160 Y (by exact ⟨ED (fun e=>by rw [e,hy]at hx;injection hx with hx;exact hd (by rw [hx])),rfl⟩)
  have heq:x=y:=NF (uS.1 hd);refine AB<|A8<|Zx<|Zg<|Ya (n:=1) Y Y<|Zm Y<|Z0<|Zn [13,0,1,12] ?_;refine Aa (e':=[(13,_)]) (by exact ⟨i+1,rfl,⟨by omega,fun j hj=>by rcases uU j i with h9|h9;exact hall j h9;obtain rfl:j=i:=(by omega);rw [hx,hy];exact congrArg some heq⟩,rfl,rfl⟩)
 refine Aw<|Zt<|Zt<|AP<|Zx<|Zq<|Zg<|Za Y<|Z0<|Zx<|AA ?_;refine AJ rfl results160 Y (by exact ⟨K8 (M0 hle (fun j hj=>hall j (by omega))),rfl⟩)
theorem Vf{a b:RP}:a=b↔a.paths=b.paths∧(a.tb=b.tb∧a.cl=b.cl∧a.lo=b.lo∧a.hi=b.hi∧a.ct=b.ct∧a.fi=b.fi)∧a.rows=b.rows∧a.roots=b.roots:=by
 obtain ⟨a1,a2,a3,a4,a5,a6,a7,a8,a9⟩:=a;obtain ⟨b1,b2,b3,b4,b5,b6,b7,b8,b9⟩:=b;simp only [RP.mk.injEq];constructor
 · rintro ⟨h1,h2,h3,h4,h5,h6,h7,h8,h9⟩;exact ⟨h8,⟨h1,h2,h3,h4,h5,h6⟩,h7,h9⟩
 · rintro ⟨h8,⟨h1,h2,h3,h4,h5,h6⟩,h7,h9⟩;exact ⟨h1,h2,h3,h4,h5,h6,h7,h8,h9⟩
theorem Xk{M:List AU}{va vb:Value}{a b:List Bs}(ha:Du M va a)(hb:Du M vb b):Az Tryz.prog 159 #[va,vb] [M] (.bool (decide (a=b))):=by
 refine Se func159 ntmps159 [0,1] ?_;intro u R;refine Zq<|Zg<|Za Y<|Z0<|Zx<|Zq<|Zg<|Zm Y<|Zm Y<|Xr [_,_] Y call160 Y rfl (X7 ha hb) ?_;refine Za Y<|Z0<|Zx<|AA ?_;refine AJ rfl results159 Y (by exact ⟨rfl,rfl⟩)
theorem ko{M:List AU}{va vb:Value}{a b:List (List Bs)}(ha:Jm M va a)(hb:Jm M vb b):Az Tryz.prog 228 #[va,vb,.func (.func 159) #[] #[]] [M] (.bool (decide (a=b))):=by
 have hml:=mL;obtain ⟨pa,ca,rfl,hla,hga⟩:=ha;obtain ⟨pb,cb,rfl,hlb,hgb⟩:=hb;refine Se func228 ntmps228 [0,1,2] ?_;intro u R;refine Zq<|Zg<|Za Y<|Z0<|Zx<|Zq<|Zq<|Zg<|Zm Y<|Zv (AV underlying46 Y)<|Zm Y<|Zv (AV underlying46 Y)<|Zv (Dj Y Y)<|Z0<|Zx ?_;refine Aq Y (fun hne=>?_) (fun hne=>?_)
 ·
  refine Zq<|Zg<|Za Y<|Z0<|Zx<|AA<|Zt ?_;refine AJ rfl results228 Y (by exact ⟨ED (fun e=>hne (by rw [e])),rfl⟩)
 have hle:a.length=b.length:=by omega
 refine AB<|Zx<|Zq<|Zq<|Zg<|Zm Y<|Zv (AV underlying46 Y)<|Zm Y<|Z0<|Zx<|AR<|Zb [17,1,2,15,16] ?_;refine BB (e0:=[(17,_)]) (fun m e H=>∃(i:Nat),m=a.length -i∧(i≤a.length∧∀j,j<i→a[j]?=b[j]?)∧e=[(17,I4 (i:Int))]∧H=[]) (by exact ⟨0,rfl,⟨uK _,by intro j hj;omega⟩,rfl,rfl⟩) Wp ?_;rintro _ _ _ ⟨i,rfl,⟨hi,hall⟩,rfl,rfl⟩;refine Zq<|Zg<|Zv (Av Y Y)<|Z0<|Zx<|Zq ?_;refine Aq Y (fun hlt=>?_) (fun hlt=>?_)
 ·
  obtain ⟨x,hx⟩:∃x,a[i]?=some x:=⟨_,tq (by omega)⟩;obtain ⟨y,hy⟩:∃y,b[i]?=some y:=⟨_,tq (by omega)⟩;obtain ⟨q1,c1,hu1,g1,off1,cur1,T1,zz1,rfl,hm1,hex1⟩:=hga i x hx;obtain ⟨q2,c2,hu2,g2,off2,cur2,T2,zz2,rfl,hm2,hex2⟩:=hgb i y hy;refine AB<|Zx<|Zq<|AR<|Zq<|Zg<|Zm Y ?_;refine BO (BV underlying46 sizeOf47 Y Y (by omega)) ?_;refine Cm (cs:=[(g1,.cells cur1 T1 zz1)]) (by simp [hm1]) (Bh isAgg47 Y (by exact hex1)) rfl rfl ?_;refine Za Y<|Za Y<|Z0<|Zx<|Zq<|Zg<|Zm Y<|Zm Y ?_;refine BO (BV underlying46 sizeOf47 Y Y (by omega)) ?_;refine Cm (cs:=[(g2,.cells cur2 T2 zz2)]) (by simp [hm2]) (Bh isAgg47 Y (by exact hex2)) rfl rfl ?_;refine Za Y<|Z0<|Zx<|Zq<|Zg<|Zm Y<|Zm Y<|Zm Y<|Xr [_,_] Y call159 Y rfl (Xk hu1 hu2) ?_;refine Zv (CL Y)<|Z0<|Zn [1,2,15,16,17,30] ?_;refine Zx ?_;refine Aq Y (fun hd=>?_) (fun hd=>?_)
  ·
   refine Zq<|Zg<|Za Y<|Z0<|Zx<|AA<|AX<|Zt<|Zt<|AX<|Zt ?_;refine AJ rfl results228 Y (by exact ⟨ED (fun e=>by rw [e,hy]at hx;injection hx with hx;exact hd hx.symm),rfl⟩)
  have heq:x=y:=uS.1 hd;refine AB<|A8<|Zx<|Zg<|Ya (n:=1) Y Y<|Zm Y<|Z0<|Zn [17,1,2,15,16] ?_;refine Aa (e':=[(17,_)]) (by exact ⟨i+1,rfl,⟨by omega,fun j hj=>by rcases uU j i with h9|h9;exact hall j h9;obtain rfl:j=i:=(by omega);rw [hx,hy];exact congrArg some heq⟩,rfl,rfl⟩)
 refine Aw<|Zt<|Zt<|AP<|Zx<|Zq<|Zg<|Za Y<|Z0<|Zx<|AA ?_;refine AJ rfl results228 Y (by exact ⟨K8 (M0 hle (fun j hj=>hall j (by omega))),rfl⟩)
theorem ZB{M:List AU}{va vb:Value}{a b:List (List Bs)}(ha:Jm M va a)(hb:Jm M vb b):Az Tryz.prog 158 #[va,vb,.func (.func 159) #[] #[]] [M] (.bool (decide (a=b))):=by
 refine Se func158 ntmps158 [0,1,2] ?_;intro u R;refine Zq<|Zg<|Za Y<|Z0<|Zx<|Zq<|Zg<|Zm Y<|Zm Y<|Zm Y<|Xr [_,_,_] Y call228 Y rfl (ko ha hb) ?_;refine Za Y<|Z0<|Zx<|AA ?_;refine AJ rfl results158 Y (by exact ⟨rfl,rfl⟩)
theorem Te(x:RP)(vr vp vt:Value):Az Tryz.prog 157 #[.agg #[I4 x.tb,I4 x.cl,I4 x.lo,I4 x.hi,I4 x.ct,I4 x.fi,vr,vp,vt]] [] (.agg #[I4 x.tb,I4 x.cl,I4 x.lo,I4 x.hi,I4 x.ct,I4 x.fi]):=by
 refine Se func157 ntmps157 [0] ?_;intro u R;refine Zq<|Zg<|Ze (Bx #[_,_,_,_,_,_,_,_,_]) ?_;rintro _ _ ⟨b1,rfl,rfl⟩;refine Ze (Al zeroValue217 #[_,_,_,_,_,_]) ?_;rintro _ _ ⟨b2,rfl,rfl⟩;refine Z0<|Zx<|Zq<|Zg<|Zh 0 underlying49 rfl rfl sizeOf3 Y<|Zl isAgg3 Y ?_;refine Zh 1 underlying49 rfl rfl sizeOf3 Y<|Zl isAgg3 Y ?_;refine Zh 2 underlying49 rfl rfl sizeOf3 Y<|Zl isAgg3 Y ?_;refine Zh 3 underlying49 rfl rfl sizeOf3 Y<|Zl isAgg3 Y ?_;refine Zh 4 underlying49 rfl rfl sizeOf3 Y<|Zl isAgg3 Y ?_;refine Zh 5 underlying49 rfl rfl sizeOf3 Y<|Zl isAgg3 Y ?_;refine Zv (BL (vs:=[(0,I4 x.tb),(1,I4 x.cl),(2,I4 x.lo),(3,I4 x.hi),(4,I4 x.ct),(5,I4 x.fi)]) (cs:=#[I4 x.tb,I4 x.cl,I4 x.lo,I4 x.hi,I4 x.ct,I4 x.fi]) Y (Cr zeroValue217 underlying217 sizeOf3 (by kernel_rfl))) ?_;refine Xe (Xw sizeOf217 #[I4 x.tb,I4 x.cl,I4 x.lo,I4 x.hi,I4 x.ct,I4 x.fi]) ?_;refine Z0<|Zn [2] ?_;refine Zx<|AA ?_;refine DK rfl results157 Y Wh (Ah isAgg217 sizeOf217 Wn (rfl)) (by exact ⟨rfl,rfl⟩)
theorem bJ{M:List AU}{va vb:Value}{a b:RP}(ha:Ph M va a)(hb:Ph M vb b):Az Tryz.prog 82 #[va,vb] [M] (.bool (decide (a=b))):=by
 obtain ⟨vr1,vp1,vt1,rfl,hR1,hP1,hT1⟩:=ha;obtain ⟨vr2,vp2,vt2,rfl,hR2,hP2,hT2⟩:=hb;refine Se func82 ntmps82 [0,1] ?_;intro u R;refine Zq<|Zg<|Ze (Bx #[_,_,_,_,_,_,_,_,_]) ?_;rintro _ _ ⟨b1,rfl,rfl⟩;refine Ze (Bx #[_,_,_,_,_,_,_,_,_]) ?_;rintro _ _ ⟨b2,rfl,rfl⟩;refine Za Y<|Z0<|Zx<|Zq<|Zg<|Za Y<|Z0<|Zx<|Zq<|Zg<|Zh 7 underlying49 rfl rfl sizeOf46 Y<|Zl isAgg46 Y ?_;refine Zh 7 underlying49 rfl rfl sizeOf46 Y<|Zl isAgg46 Y ?_;refine Xr [_,_,_] Y call158 Y rfl (ZB hP1 hP2) ?_;refine Za Y<|Z0<|Zx<|Zq<|BK (n:=25) (0::1::3::3::15::3::3::127::255::511::1023::2047::4095::2047::10239::32767::65535::131071::262143::524287::262143::1310719::4194303::8388607::16777215::[]) 4227216 (by kernel_rfl) (by kernel_rfl) rfl ?_;refine Zi 1 0 rfl (AL Y)<|Zi 3 1 rfl (AL Y) ?_;refine CZ (t:=13) Y (fun h1=>?_) (fun h1=>?_)
 ·
  first|rw [decide_eq_true h1]|rw [h1]|skip
  refine Ai (D':=7) 2 Y rfl rfl rfl (AL Y) ?_;refine Bn (D':=15) 3 Y rfl rfl rfl Wh (Pa #[_,_,_,_,_,_,_,_,_] isAgg49 sizeOf49 Y) ?_;refine Ai (D':=47) 5 Y rfl rfl rfl (AL Y) ?_;refine Bn (D':=111) 6 Y rfl rfl rfl Wh (Pa #[_,_,_,_,_,_,_,_,_] isAgg49 sizeOf49 Y) ?_;refine Yz 4 15 127 [6,3] [true,false] [(6,(_,_))] rfl Y rfl rfl rfl rfl (Zu [_] Y call157 Y rfl (Te a vr1 vp1 vt1)) ?_;rintro _ _ ⟨rfl,rfl⟩;refine ⟨Zk (Ad),?_⟩;refine Yw 7 255 rfl (Zu [_] Y call157 Y rfl (Te b vr2 vp2 vt2)) ?_;rintro _ _ ⟨rfl,rfl⟩;refine Ai (D':=511) 8 Y rfl rfl rfl (YD (by kernel_rfl) underlying217 underlying3 isAgg3 sizeOf3 Y Y) ?_;refine Zi 1023 9 rfl (AO Y Y)<|Zi 2047 10 rfl (AL Y) ?_;refine CZ (t:=22) Y (fun h2=>?_) (fun h2=>?_)
  ·
   first|rw [decide_eq_true h2]|rw [h2]|skip
   refine Ai (D':=4095) 11 Y rfl rfl rfl (AY (off:=6) underlying49 rfl rfl sizeOf45 Y) ?_;refine Bn (D':=8191) 12 Y rfl rfl rfl Wh (Bh isAgg45 Y (by rfl)) ?_;refine Ai (D':=16383) 13 Y rfl rfl rfl (AY (off:=6) underlying49 rfl rfl sizeOf45 Y) ?_;refine Bn (D':=32767) 14 Y rfl rfl rfl Wh (Bh isAgg45 Y (by rfl)) ?_;refine Yw 15 65535 rfl (Zu [_,_] Y call88 Y rfl (X8 hR1 hR2)) ?_;rintro _ _ ⟨rfl,rfl⟩;refine Zi 131071 16 rfl (AO Y Y)<|Zi 262143 17 rfl (AL Y) ?_;refine CZ (t:=29) Y (fun h3=>?_) (fun h3=>?_)
   ·
    first|rw [decide_eq_true h3]|rw [h3]|skip
    refine Ai (D':=524287) 18 Y rfl rfl rfl (AY (off:=8) underlying49 rfl rfl sizeOf47 Y) ?_;refine Bn (D':=1048575) 19 Y rfl rfl rfl Wh (Bh isAgg47 Y (by rfl)) ?_;refine Ai (D':=2097151) 20 Y rfl rfl rfl (AY (off:=8) underlying49 rfl rfl sizeOf47 Y) ?_;refine Bn (D':=4194303) 21 Y rfl rfl rfl Wh (Bh isAgg47 Y (by rfl)) ?_;refine Yw 22 8388607 rfl (Zu [_,_] Y call160 Y rfl (X7 hT1 hT2)) ?_;rintro _ _ ⟨rfl,rfl⟩;refine Zi 16777215 23 rfl (AO Y Y)<|Zi 33554431 24 rfl (Au Y)<|Ao ?_;refine Zn [4] ?_;refine Zx<|AA ?_;refine AJ rfl results82 Y (by exact ⟨by exact Gg ⟨fun h9=>Vf.2 ⟨h1,h2,h3,h9⟩,fun h9=>(Vf.1 h9).2.2.2⟩,rfl⟩)
   first|rw [decide_eq_false h3]|rw [h3]|skip
   refine Yk 524287 18 rfl<|Yk 1048575 19 rfl<|Yk 2097151 20 rfl<|Yk 4194303 21 rfl<|Yk 8388607 22 rfl<|Zi 16777215 23 rfl (AC Y Y)<|Zi 33554431 24 rfl (Au Y)<|Ao ?_;refine Zn [4] ?_;refine Zx<|AA ?_;refine AJ rfl results82 Y (by exact ⟨by exact ED (fun e=>h3 (Vf.1 e).2.2.1),rfl⟩)
  first|rw [decide_eq_false h2]|rw [h2]|skip
  refine Yk 4095 11 rfl<|Yk 8191 12 rfl<|Yk 16383 13 rfl<|Yk 32767 14 rfl<|Yk 65535 15 rfl<|Zi 131071 16 rfl (AC Y Y)<|Zi 262143 17 rfl (AL Y)<|Yk 524287 18 rfl<|Yk 1048575 19 rfl<|Yk 2097151 20 rfl<|Yk 4194303 21 rfl<|Yk 8388607 22 rfl<|Zi 16777215 23 rfl (AC Y Y)<|Zi 33554431 24 rfl (Au Y)<|Ao ?_;refine Zn [4] ?_;refine Zx<|AA ?_;refine AJ rfl results82 Y (by exact ⟨by exact ED (fun e=>h2 (Vf.1 e).2.1),rfl⟩)
 first|rw [decide_eq_false h1]|rw [h1]|skip
 refine Yk 7 2 rfl<|Yk 15 3 rfl<|Yk 31 4 rfl<|Yk 63 5 rfl<|Yk 127 6 rfl<|Yk 255 7 rfl<|Yk 511 8 rfl<|Zi 1023 9 rfl (AC Y Y)<|Zi 2047 10 rfl (AL Y)<|Yk 4095 11 rfl<|Yk 8191 12 rfl<|Yk 16383 13 rfl<|Yk 32767 14 rfl<|Yk 65535 15 rfl<|Zi 131071 16 rfl (AC Y Y)<|Zi 262143 17 rfl (AL Y)<|Yk 524287 18 rfl<|Yk 1048575 19 rfl<|Yk 2097151 20 rfl<|Yk 4194303 21 rfl<|Yk 8388607 22 rfl<|Zi 16777215 23 rfl (AC Y Y)<|Zi 33554431 24 rfl (Au Y)<|Ao ?_;refine Zn [4] ?_;refine Zx<|AA ?_;refine AJ rfl results82 Y (by exact ⟨by exact ED (fun e=>h1 (Vf.1 e).1),rfl⟩)
theorem O4(s:Bs):∀(n:Nat) (l:List Bs) (i:Nat),l.length≤n→l[i]?=some s→NB s l.length i (EA l i).reverse=some (Cu l)
 |n,l,i,hn,hi=>by
  have hlt:=(tu.1 hi).1;rcases uU l.length 2 with h|h
  · match l,hi with
    |[x],hi=>
     have h0:i=0:=by simp at hlt;exact hlt
     subst h0;simp at hi;subst hi;rw [Lr (by simp),QQ];rfl
    |[],hi=>simp at hi
    |x::y::l,hi=>simp only [uJ]at h;omega
  · have h1:=Ii h
    have h2:=IB l.length
    match n,hn with
    |0,hn=>omega
    |n+1,hn=>
    have ht:(l.take (Bw l.length)).length=Bw l.length:=by rw [uD];omega
    have hd:(l.drop (Bw l.length)).length=l.length -Bw l.length:=uE;by_cases hk:i<Bw l.length
    · have ih:=O4 s n (l.take (Bw l.length)) i (by omega) (by rw [uz,if_pos hk];exact hi)
      rw [ht]at ih;rw [JU h hk,xG];show NB s l.length i (Cu (l.drop (Bw l.length))::(EA (l.take (Bw l.length)) i).reverse)=_
      rw [Si h hk,ih,Lp h];rfl
    · have ih:=O4 s n (l.drop (Bw l.length)) (i -Bw l.length) (by omega) (by rw [vK,show Bw l.length+(i -Bw l.length)=i by omega];exact hi)
      rw [hd]at ih;rw [Ig h hk,xG];show NB s l.length i (Cu (l.take (Bw l.length))::(EA (l.drop (Bw l.length)) (i -Bw l.length)).reverse)=_
      rw [Q3 h hk,ih,Lp h];rfl
theorem az{l:List Bs}{i:Nat}{s:Bs}(hi:l[i]?=some s):Rj (Cu l) l.length i s (EA l i)=true:=by
 unfold Rj;rw [O4 s l.length l i (uG _) hi];have h:(EA l i).any PY=false:=by
  rw [List.any_eq_false];intro x hx;simp [PY,Ji l.length l i (uG _) x hx]
 rw [h];simp
theorem RI{pd:AQ→Bool}:∀{l:List AQ} {i:Nat} {x:AQ},i<Ce pd l→l[i]?=some x→pd x=false
 |[],i,x,_,hx=>by simp at hx
 |z::l,i,x,hi,hx=>by
  unfold Ce at hi;rw [xH]at hi;by_cases hz:pd z=true
  · rw [if_neg (by simp [hz])]at hi;simp at hi
  · have hz':pd z=false:=by simpa using hz
    rw [if_pos (by simp [hz'])]at hi;rcases i with _|i
    · simp at hx;rw [←hx];exact hz'
    · simp only [wV]at hx
      exact RI (l:=l) (by unfold Ce;simp at hi;omega) hx
theorem Oj{pd:AQ→Bool}:∀{l:List AQ} {x:AQ},l[Ce pd l]?=some x→pd x=true
 |[],x,hx=>by simp at hx
 |z::l,x,hx=>by
  unfold Ce at hx;rw [xH]at hx;by_cases hz:pd z=true
  · rw [if_neg (by simp [hz])]at hx;simp at hx;rw [←hx];exact hz
  · have hz':pd z=false:=by simpa using hz
    rw [if_pos (by simp [hz'])]at hx;simp only [uJ,wV]at hx;exact Oj (l:=l) hx
def ltV(c:Nat)(a b:AQ):Prop:=DZ a c<DZ b c∨DZ a c=DZ b c∧a.k<b.k
theorem Qq{rs:List AQ}(hs:BJ rs)(t:Int)(c:Nat):(BD rs t c).Pairwise (ltV c):=by
 have h1:=Ed hs t c (-1000000000) 1000000000;have h2:(rs.filter (inR t c (-1000000000) 1000000000)).Pairwise (fun a b=>a.k≠b.k):=(Lt hs fun r h=>aS h).imp (fun h=>by omega)
 have h3:(Cn rs t c (-1000000000) 1000000000).Pairwise (fun a b=>a.k≠b.k):=((ES rs t c (-1000000000) 1000000000).pairwise_iff (fun h=>h.symm)).2 h2;exact (h1.and h3).imp (fun{a b} h=>by unfold ltV;obtain ⟨h4,h5⟩:=h;unfold leV at h4;omega)
theorem oq{l:List AQ}{R:AQ→AQ→Prop}(h:l.Pairwise R){i j:Nat}{a b:AQ}(hij:i<j)(ha:l[i]?=some a)(hb:l[j]?=some b):R a b:=by
 obtain ⟨hi,rfl⟩:=tu.1 ha;obtain ⟨hj,rfl⟩:=tu.1 hb;exact yc.1 h i j hi hj hij
theorem WM{rs:List AQ}(hs:BJ rs){t:Int}{c i j:Nat}{a b:AQ}(hij:i≤j)(ha:(BD rs t c)[i]?=some a)(hb:(BD rs t c)[j]?=some b):DZ a c≤DZ b c:=by
 rcases Nat.eq_or_lt_of_le hij with rfl|h
 · rw [ha]at hb;injection hb with hb;rw [hb];exact AA3 _
 · have:=oq (Qq hs t c) h ha hb
   unfold ltV at this;omega
theorem aM{rs:List AQ}(hs:BJ rs)(t c:Nat)(lo:Int){i:Nat}{r:AQ}(hr:(BD rs (t:Int) c)[i]?=some r):(Ce (geV c lo) (BD rs (t:Int) c)≤i→lo≤DZ r c)∧(i<Ce (geV c lo) (BD rs (t:Int) c)→DZ r c<lo):=by
 constructor
 · intro h
   have hlt:=(tu.1 hr).1;have hx:(BD rs (t:Int) c)[Ce (geV c lo) (BD rs (t:Int) c)]?=some _:=tq (by omega)
   have h1:=of_decide_eq_true (Oj hx);have h2:=WM hs h hx hr
   omega
 · intro h
   have:=of_decide_eq_false (RI h hr);omega
theorem aT{rs:List AQ}(hs:BJ rs)(t c:Nat)(hi:Int){i:Nat}{r:AQ}(hr:(BD rs (t:Int) c)[i]?=some r):(Ce (gtV c hi) (BD rs (t:Int) c)≤i→hi<DZ r c)∧(i<Ce (gtV c hi) (BD rs (t:Int) c)→DZ r c≤hi):=by
 constructor
 · intro h
   have hlt:=(tu.1 hr).1;have hx:(BD rs (t:Int) c)[Ce (gtV c hi) (BD rs (t:Int) c)]?=some _:=tq (by omega)
   have h1:=of_decide_eq_true (Oj hx);have h2:=WM hs h hx hr
   omega
 · intro h
   have:=of_decide_eq_false (RI h hr);omega
theorem RH{rs:List AQ}(hs:BJ rs)(t c:Nat)(lo hi:Int)(hlh:lo≤hi):Ce (geV c lo) (BD rs (t:Int) c)≤Ce (gtV c hi) (BD rs (t:Int) c):=by
 rcases uU (Ce (gtV c hi) (BD rs (t:Int) c)) (Ce (geV c lo) (BD rs (t:Int) c))with h|h
 · have h9:=Gc (geV c lo) (BD rs (t:Int) c)
   have hx:(BD rs (t:Int) c)[Ce (gtV c hi) (BD rs (t:Int) c)]?=some _:=tq (by omega);have h1:=(aT hs t c hi hx).1 (uG _)
   have h2:=(aM hs t c lo hx).2 h;omega
 · exact h
theorem Ku{l:List AQ}{f m j:Nat}{r:AQ}(h:((l.drop f).take m)[j]?=some r):j<m∧l[f+j]?=some r:=by
 rw [uz]at h;split at h
 · rw [vK]at h;exact ⟨by assumption,h⟩
 · cases h
theorem aI{rs:List AQ}{t:Int}{c:Nat}{r:AQ}(h:r∈BD rs t c):r∈rs∧r.t=t:=by
 have:=wF.1 ((ES rs t c _ _).mem_iff.1 h);exact ⟨this.1,aS this.2⟩
theorem KL{rs:List AQ}(hs:BJ rs)(t c:Nat)(lo hi:Int)(hlh:lo≤hi):Bl (BD rs (t:Int) c) c lo≤toT (BD rs (t:Int) c) c hi∧toT (BD rs (t:Int) c) c hi≤(BD rs (t:Int) c).length∧(0<(BD rs (t:Int) c).length→Bl (BD rs (t:Int) c) c lo<toT (BD rs (t:Int) c) c hi):=by
 have h1:=RH hs t c lo hi hlh;have h2:=Gc (geV c lo) (BD rs (t:Int) c)
 have h3:=Gc (gtV c hi) (BD rs (t:Int) c);unfold Bl toT;omega
theorem TI{rs:List AQ}(hs:BJ rs)(t c:Nat)(lo hi:Int)(hlh:lo≤hi):(EQ rs t c lo hi).rows.length=toT (BD rs (t:Int) c) c hi -Bl (BD rs (t:Int) c) c lo:=by
 have:=KL hs t c lo hi hlh;show(((BD rs (t:Int) c).drop _).take _).length=_
 rw [uD,uE];omega
theorem Kc{rs:List AQ}(hs:BJ rs)(hn:rs.length≤2000)(hok:∀r∈rs,r.ok)(t c:Nat)(ht:t≤3)(hc:c≤3)(lo hi:Int)(hlh:lo≤hi):GA (EQ rs t c lo hi):=by
 have h1:=RH hs t c lo hi hlh;have h2:=Gc (geV c lo) (BD rs (t:Int) c)
 have h3:=Gc (gtV c hi) (BD rs (t:Int) c);have h4:=KL hs t c lo hi hlh
 have h5:=TI hs t c lo hi hlh;have hll:=I7 hs (t:Int) c
 have hf:Bl (BD rs (t:Int) c) c lo=Ce (geV c lo) (BD rs (t:Int) c) -1:=rfl;have hto:toT (BD rs (t:Int) c) c hi=min (Ce (gtV c hi) (BD rs (t:Int) c)+1) (BD rs (t:Int) c).length:=rfl
 have hv:∀r:AQ,Bg r ((c:Nat):Int)=DZ r c:=fun r=>MS r c hc;refine ⟨⟨⟨?_,?_⟩,?_,?_⟩,hlh,⟨?_,?_⟩,⟨?_,?_⟩,?_,?_,?_,?_,?_⟩
 · show(0:Int)≤(t:Int);omega
 · show(t:Int)<4;omega
 · show(0:Int)≤(c:Int);omega
 · show(c:Int)<4;omega
 · show(0:Int)≤((BD rs (t:Int) c).length:Int);omega
 · show((BD rs (t:Int) c).length:Int)≤2000;omega
 · show(0:Int)≤((Bl (BD rs (t:Int) c) c lo:Nat):Int);omega
 · show((Bl (BD rs (t:Int) c) c lo:Nat):Int)≤((BD rs (t:Int) c).length:Int);omega
 · rw [h5];show _≤((BD rs (t:Int) c).length:Int) -((Bl (BD rs (t:Int) c) c lo:Nat):Int);omega
 · rw [h5];intro h0;show((BD rs (t:Int) c).length:Int)=0;omega
 · intro j r hr
   obtain ⟨hj,hr2⟩:=Ku hr;have hm:=aI (uI hr2)
   have hlo:=aM hs t c lo hr2;have hhi:=aT hs t c hi hr2
   refine ⟨⟨hok r hm.1,hm.2,?_,?_⟩,?_⟩
   · intro h;change Bg r (c:Int)<lo at h;rw [hv]at h;omega
   · intro h;change hi<Bg r (c:Int)at h;rw [hv]at h;rw [h5];omega
   · intro hj0 q hq
     obtain ⟨_,hq2⟩:=Ku hq;have:=oq (Qq hs (t:Int) c) (by omega) hq2 hr2
     unfold Ri;show Bg q (c:Int)<Bg r (c:Int)∨Bg q (c:Int)=Bg r (c:Int)∧q.k<r.k
     rw [hv,hv];exact this
 · intro r hr
   obtain ⟨_,hr2⟩:=Ku hr;have hlo:=aM hs t c lo hr2
   show((Bl (BD rs (t:Int) c) c lo:Nat):Int)=0∨Bg r (c:Int)<lo;rw [hv];omega
 · intro r hr
   rw [h5]at hr⊢;obtain ⟨hj,hr2⟩:=Ku hr;have hhi:=aT hs t c hi hr2
   show((Bl (BD rs (t:Int) c) c lo:Nat):Int)+_=((BD rs (t:Int) c).length:Int)∨hi<Bg r (c:Int);rw [hv];omega
theorem Sg{rs:List AQ}(hs:BJ rs)(hn:rs.length≤2000)(hok:∀r∈rs,r.ok)(t c:Nat)(ht:t≤3)(hc:c≤3)(lo hi:Int)(hlh:lo≤hi):Nu (Df rs) (EQ rs t c lo hi):=by
 have h4:=KL hs t c lo hi hlh;have h5:=TI hs t c lo hi hlh
 refine ⟨Kc hs hn hok t c ht hc lo hi hlh,J4 rs,?_,rfl,Cu (K9 (BD rs (t:Int) c)),Eo _,?_,?_,?_⟩
 · rw [h5];exact QZ _ _ _
 · show(NE rs)[4*(t:Int).toNat+(c:Int).toNat]?=some (LQ ((BD rs (t:Int) c).length:Int)++_)
   rw [wI,wI];unfold NE;rw [uO,gQ t (by omega) c (by omega)];rfl
 · intro h0
   change ((BD rs (t:Int) c).length:Int)=0 at h0;rw [vB (show(BD rs (t:Int) c).length=0 by omega)];rfl
 · intro _ k r pf hr hp
   obtain ⟨hk,hr2⟩:=Ku hr;change (J9 (BD rs (t:Int) c) (Bl (BD rs (t:Int) c) c lo) _)[k]?=some pf at hp;unfold J9 at hp;rw [uO,xu hk]at hp;injection hp with hp
   subst hp;show Rj _ ((BD rs (t:Int) c).length:Int).toNat (((Bl (BD rs (t:Int) c) c lo:Nat):Int).toNat+k) _ _=true
   rw [wI,wI,←EW (BD rs (t:Int) c)];refine az ?_;unfold K9;rw [uO,hr2];rfl
theorem Xo{rs:List AQ}(hs:BJ rs)(hn:rs.length≤2000)(hok:∀r∈rs,r.ok)(t c:Nat)(ht:t≤3)(hc:c≤3)(lo hi:Int)(hlh:lo≤hi):EH (EQ rs t c lo hi)=(BD rs (t:Int) c).filter (inR (t:Int) c lo hi):=by
 have hcm:=Kc hs hn hok t c ht hc lo hi hlh;have h4:=KL hs t c lo hi hlh
 have hf:Bl (BD rs (t:Int) c) c lo=Ce (geV c lo) (BD rs (t:Int) c) -1:=rfl;have hto:toT (BD rs (t:Int) c) c hi=min (Ce (gtV c hi) (BD rs (t:Int) c)+1) (BD rs (t:Int) c).length:=rfl
 have hv:∀r:AQ,Bg r ((c:Nat):Int)=DZ r c:=fun r=>MS r c hc;rw [Xn hcm];show(((BD rs (t:Int) c).drop (Bl (BD rs (t:Int) c) c lo)).take (toT (BD rs (t:Int) c) c hi -Bl (BD rs (t:Int) c) c lo)).filter _=_
 have e:BD rs (t:Int) c=(BD rs (t:Int) c).take (Bl (BD rs (t:Int) c) c lo)++(((BD rs (t:Int) c).drop (Bl (BD rs (t:Int) c) c lo)).take (toT (BD rs (t:Int) c) c hi -Bl (BD rs (t:Int) c) c lo)++(BD rs (t:Int) c).drop (toT (BD rs (t:Int) c) c hi)):=by
  have e1:(BD rs (t:Int) c).drop (toT (BD rs (t:Int) c) c hi)=((BD rs (t:Int) c).drop (Bl (BD rs (t:Int) c) c lo)).drop (toT (BD rs (t:Int) c) c hi -Bl (BD rs (t:Int) c) c lo):=by
   rw [yK];congr 1;omega
  rw [e1,uw,uw]
 conv=>rhs;rw [e]
 rw [vH,vH];have z1:((BD rs (t:Int) c).take (Bl (BD rs (t:Int) c) c lo)).filter (inR (t:Int) c lo hi)=[]:=by
  rw [List.filter_eq_nil_iff];intro r hr h9;obtain ⟨i,hi9⟩:=uq hr;rw [uz]at hi9;split at hi9
  · have:=(aM hs t c lo hi9).2 (by omega)
    have:=of_decide_eq_true h9;omega
  · cases hi9
 have z2:((BD rs (t:Int) c).drop (toT (BD rs (t:Int) c) c hi)).filter (inR (t:Int) c lo hi)=[]:=by
  rw [List.filter_eq_nil_iff];intro r hr h9;obtain ⟨i,hi9⟩:=uq hr;rw [vK]at hi9;have hlt:=(tu.1 hi9).1
  have:=(aT hs t c hi hi9).1 (by omega);have:=of_decide_eq_true h9
  omega
 rw [z1,z2,vg,uj];refine zI ?_;intro r hr;have hm:=aI (vP (vQ hr))
 unfold inB inR;show decide (lo≤Bg r (c:Int)∧Bg r (c:Int)≤hi)=_
 rw [hv];exact decide_eq_decide.2 ⟨fun h=>⟨hm.2,h⟩,fun h=>h.2⟩
theorem kV{rs:List AQ}(hs:BJ rs)(hok:∀r∈rs,r.ok)(t c:Nat)(ht:t≤3)(hc:c≤3)(lo hi:Int)(hlh:lo≤hi):(BD rs (t:Int) c).filter (inR (t:Int) c lo hi)=Cn rs (t:Int) c lo hi:=by
 refine TE hs ?_ ?_
 · have h1:=(ES rs (t:Int) c (-1000000000) 1000000000).filter (inR (t:Int) c lo hi)
   refine h1.trans ?_;rw [List.filter_filter];refine List.Perm.of_eq (zI ?_);intro r hr;obtain ⟨⟨h1,h2,h3⟩,h4,h5⟩:=hok r hr;unfold inV at h1 h2 h3;have hb:-1000000000≤DZ r c∧DZ r c≤1000000000:=by
    unfold DZ;split
    · omega
    · split
      · omega
      · split<;>omega
   unfold inR;rw [←Bool.decide_and];exact decide_eq_decide.2 ⟨fun h=>h.1,fun h=>⟨h,h.1,hb⟩⟩
 · exact (Ed hs (t:Int) c (-1000000000) 1000000000).filter _
theorem QN{rs:List AQ}(hs:BJ rs)(hn:rs.length≤2000)(hok:∀r∈rs,r.ok)(t c:Nat)(ht:t≤3)(hc:c≤3)(lo hi:Int)(hlh:lo≤hi):EH (EQ rs t c lo hi)=Cn rs (t:Int) c lo hi:=by rw [Xo hs hn hok t c ht hc lo hi hlh,kV hs hok t c ht hc lo hi hlh]
def CG(c:Int)(n:Nat):Nat:=((if c<0 then-(c+1)else c).tmod n).toNat
theorem F9(c:Int)(n:Nat)(hn:0<n):CG c n<n:=by
 unfold CG;have h1:0≤(if c<0 then-(c+1)else c):=by split<;>omega
 have h2:=Int.tmod_lt_of_pos (if c<0 then-(c+1)else c) (b:=(n:Int)) (by omega);have h3:=Int.tmod_nonneg (n:Int) h1
 omega
theorem NT(c:Int)(n:Nat):(if c<0 then-(c+1)else c).tmod n=(CG c n:Int):=by
 unfold CG;have h1:0≤(if c<0 then-(c+1)else c):=by split<;>omega
 have h3:=Int.tmod_nonneg (n:Int) h1;omega
theorem mg{rs:List AQ}{c:Chg}{x:AQ}(h:x∈EL rs c):x∈rs∨(c.has=true∧x=⟨c.t,c.k,c.n⟩):=by
 unfold EL at h;rcases uQ.1 h with h|h
 · rcases uQ.1 h with h|h
   · exact .inl (vQ h)
   · exact .inr (Na.1 h)
 · exact .inl (vP (vP h))
theorem o6{c:Chg}(h:c.ok)(hh:c.has=true):AQ.ok ⟨c.t,c.k,c.n⟩:=by
 obtain ⟨_,h2,_⟩:=h;rw [Je hh]at h2;exact uS.1 fun h9=>h2 (.inr ⟨hh,h9⟩)
theorem TG:∀(cs:List Chg) (rs:List AQ),(∀r∈rs,r.ok)→(∀c∈cs,c.ok)→∀r∈DN rs cs,r.ok
 |[],rs,h,_=>h
 |c::cs,rs,h,hc=>by
  have h1:∀r∈EL rs c,r.ok:=fun r hr=>by
   rcases mg hr with hr|⟨hh,rfl⟩
   · exact h r hr
   · exact o6 (hc c (by simp)) hh
  exact TG cs (EL rs c) h1 (fun c hc9=>hc c (by simp [hc9]))
theorem DY.rowsOk{l:List Bq}(h:DY l):∀i,i≤l.length→∀r∈BU (l.take i),r.ok
 |0,_=>by intro r hr;simp [BU]at hr
 |i+1,hi=>by
  obtain ⟨r,hr⟩:∃r,l[i]?=some r:=⟨_,tq (by omega)⟩;rw [Bu hr,FO];refine TG _ _ (DY.rowsOk h i (by omega)) fun c hc=>?_;obtain ⟨j,hj⟩:=uq hc;exact (h i r hr).1.ok.all j c hj
theorem iH{M:List AU}{p:Option Addr}{n cap:Nat}{xs:List (List Int)}(h:Nw M (.slice p n cap) xs)(k:Nat)(hk:k≤n):Nw M (.slice p k cap) (xs.take k):=by
 obtain ⟨p9,cap9,e,hl,hg⟩:=h;injection e with e1 e2 e3
 subst e1 e2 e3;have e4:(xs.take k).length=k:=by rw [uD];exact wT hk
 refine ⟨p,cap,by rw [e4],by omega,fun i z hz=>hg i z ?_⟩;rw [uz]at hz;split at hz
 · exact hz
 · cases hz
def cs0:List Chg:=[⟨0,3,false,V3.zero,true,⟨10,0,0⟩⟩,⟨0,5,false,V3.zero,true,⟨10,21,30⟩⟩]
def RP.cut(x:RP):RP:=⟨x.tb,x.cl,x.lo,x.hi,x.ct,x.fi,x.rows.drop 1,x.paths.drop 1,x.roots⟩
theorem pW{M:List AU}{v:Value}{x:RP}(hv:Ph M v x)(h:GA x){l:List AQ}(hl:EH x=l):CQ Tryz.prog 37 #[v] [M] (fun r H'=>∃vr sr,r= .tuple #[vr,.bool true]∧BZ 5 113 vr l.length (Ae l) sr∧H'=[sr,M]):=by
 have h1:=bP hv;rw [decide_eq_true h,hl]at h1;exact h1
theorem Ph.mono{M M':List AU}{v:Value}{x:RP}(h:Ph M v x)(hm:∀c∈M,c∈M'):Ph M' v x:=by
 obtain ⟨vr,vp,vt,e,h1,h2,h3⟩:=h;exact ⟨vr,vp,vt,e,h1.mono hm,h2.mono hm,h3.mono hm⟩
theorem QY:∀(n:Nat) (l:List Bs) (i:Nat),l.length≤n→(EA l i).length≤l.length
 |n,l,i,hn=>by
  rcases uU l.length 2 with h|h
  · rw [Lr (by omega)];simp
  · have h1:=Ii h
    have h2:=IB l.length
    match n,hn with
    |0,hn=>omega
    |n+1,hn=>
    by_cases hi:i<Bw l.length
    · have ih:=QY n (l.take (Bw l.length)) i (by rw [uD];omega)
      rw [uD]at ih;rw [JU h hi,u6];simp only [uH];omega
    · have ih:=QY n (l.drop (Bw l.length)) (i -Bw l.length) (by rw [uE];omega)
      rw [uE]at ih;rw [Ig h hi,u6];simp only [uH];omega
theorem PE{rs:List AQ}(hs:BJ rs)(hn:rs.length≤2000)(t c:Nat)(lo hi:Int):∀s∈(EQ rs t c lo hi).roots,s.length≤140737488354000:=by
 intro s h;obtain ⟨x,_,rfl⟩:=vD.1 h;have:=VS hs hn x
 omega
theorem PG{rs:List AQ}(hs:BJ rs)(hn:rs.length≤2000)(t c:Nat)(lo hi:Int):∀l∈(EQ rs t c lo hi).paths,l.length≤1000000:=by
 intro l h;obtain ⟨x,_,rfl⟩:=vD.1 h;have h1:=QY _ (K9 (BD rs (t:Int) c)) (Bl (BD rs (t:Int) c) c lo+x) (uG _)
 have h2:=I7 hs (t:Int) c;rw [EW]at h1;omega
end Go.Proofs.YtkdgffcfmgmemaaGreatDoor
namespace Go.Proofs.YtkdgffcfmgmemaaGreatDoor
open Go.Proofs.Tryz
open Go Go.RowKit Gw
set_option maxRecDepth 100000
attribute [local irreducible] Gw.At Gw.Nx Gw.Ops
open Go.ChangeShapes Go.WideShapes Go.Deep
theorem sP(ad:Addr):ad.add 0=ad:=by simp [Addr.add]
theorem lL{w:World}{a:Addr}{v:Value}(h:w.cell? a=some v):a=⟨a.block,a.off,none⟩:=by
 cases a with|mk b o s=>
 cases s with
 |none=>rfl
 |some s=>
  simp only [World.cell?]at h;split at h<;>simp at h
theorem U6{w:World}{g i:Nat}{v:Value}(h:w.cell? ⟨g,i,none⟩=some v):∃cur T z,w.heap[g]?=some (.cells cur T z)∧cur[i]?=some v:=by
 unfold World.cell? at h;simp only at h;split at h
 · rename_i c T z hc
   exact ⟨c,T,z,hc,by simpa using h⟩
 · cases h
section
variable{H:Type}{enc:TypeId×Value→H}{P:Program}{w:World}{base:Nat}{held:Bool}
end
def UF(w:World):List AU:=(List.range w.heap.size).filterMap fun b=>(w.heap[b]?).map fun o=>(b,o)
theorem Ti{w:World}{b:Nat}{o:Obj}:(b,o)∈UF w↔w.heap[b]?=some o:=by
 unfold UF;rw [xW];constructor
 · rintro ⟨a,_,ha⟩
   obtain ⟨o',h1,h2⟩:=Option.map_eq_some_iff.1 ha;injection h2 with e1 e2
   subst e1 e2;exact h1
 · intro h
   refine ⟨b,?_,by rw [h];rfl⟩;rw [vk];rcases uU b w.heap.size with h1|h1
   · exact h1
   · simp [um h1]at h
theorem XW(w:World):((UF w).map (·.1)).Nodup:=by
 have:∀l:List Nat,((l.filterMap fun b=>(w.heap[b]?).map fun o=>(b,o)).map (·.1)).Sublist l:=by
  intro l;induction l with
  |nil=>simp
  |cons a l ih=>
   rw [yh];cases h:w.heap[a]?with
   |none=>simp only [Option.map_none];exact ih.cons a
   |some o=>simp only [wE,vJ];exact ih.cons_cons a
 exact List.Nodup.sublist (this _) AA6
def P8(w:World)(ks:List Nat):List AU:=(UF w).filter fun c=>!ks.contains c.1
theorem Qx{w:World}{ks:List Nat}{b:Nat}{o:Obj}(h:w.heap[b]?=some o)(hk:b∉ks):(b,o)∈P8 w ks:=by
 unfold P8;rw [wF];exact ⟨Ti.2 h,by simp [hk]⟩
theorem dh{P:Program}{f:FuncId}{args:Array Value}{v:Value}{w:World}(L:List AU)(hL:∀c∈L,w.heap[c.1]?=some c.2)(hn:(L.map (·.1)).Nodup){H:Hp}(hH:H.flatten=L++P8 w (L.map (·.1)))(h:Az P f args H v):
 Calls P f args w fun e w'=>e= .returned v∧Below w.heap.size w w':=by
 have hsat:Sat w (H++[]) w:=by
  refine ⟨rfl,rfl,rfl,?_,?_⟩
  · rw [uj,hH,uW,wP]
    refine ⟨hn,?_,?_⟩
    · exact List.Nodup.sublist (zk.map _) (XW w)
    · intro a ha b hb e
      subst e;obtain ⟨c,hc,rfl⟩:=vD.1 hb;unfold P8 at hc;have:=(wF.1 hc).2
      simp only [wQ,List.contains_eq_mem,decide_eq_false_iff_not]at this;exact this ha
  · intro p hp
    rw [uj,hH,uQ]at hp;rcases hp with hp|hp
    · exact hL p hp
    · exact Ti.1 (wF.1 hp).1
 refine Calls.mono (h w [] w hsat) fun e w' he=>?_;rcases he with⟨v',H',rfl,⟨rfl,rfl⟩,hs⟩|⟨_,_,_,hf,_⟩
 · refine ⟨rfl,hs.os,hs.tape,hs.output,?_,?_⟩
   · rcases vV w.heap.size with h0|h0
     · omega
     · have hlt:w.heap.size -1<w.heap.size:=by omega
       have hg:w.heap[w.heap.size -1]?=some w.heap[w.heap.size -1]:=uM hlt;have:w'.heap[w.heap.size -1]?=some w.heap[w.heap.size -1]:=by
        by_cases hk:(w.heap.size -1)∈L.map (·.1)
        · obtain ⟨c,hc,hk⟩:=vD.1 hk
          have h1:=hs.get c (by rw [uj,hH];exact uZ _ hc);have h2:=hL c hc
          rw [hk]at h1 h2;rw [h1,←h2,hg]
        · exact hs.get (_,_) (by rw [uj,hH];exact uN _ (Qx hg hk))
       rcases uU (w.heap.size -1) w'.heap.size with h1|h1
       · omega
       · rw [um h1]at this;cases this
   · intro k hk
     have hg:w.heap[k]?=some w.heap[k]:=uM hk;by_cases hm:k∈L.map (·.1)
     · obtain ⟨c,hc,rfl⟩:=vD.1 hm
       have h1:=hs.get c (by rw [uj,hH];exact uZ _ hc);rw [h1,hL c hc]
     · rw [hg]
       exact hs.get (_,_) (by rw [uj,hH];exact uN _ (Qx hg hm))
 · exact hf.elim
theorem gJ{P:Program}{w:World}{n:String}{g:Nat}{cs:Array Value}(hg:P.globalNamed n=some g)(h:w.var? P n=some cs):∃T z,w.heap[g]?=some (.cells cs T z):=by
 unfold World.var? at h;rw [hg,vL]at h;split at h
 · rename_i c T z hc
   injection h with e
   subst e;exact ⟨T,z,hc⟩
 · cases h
theorem kK:Tryz.prog.globalNamed "cachetier/digest.round"=some 1:=by kernel_rfl
theorem pG:(Tryz.prog.globals[1]?).map (·.type)=some 339:=by kernel_rfl
theorem c32:Tryz.prog.cellsOf 227=1:=by kernel_rfl
theorem tN:Tryz.prog.cellsOf 339=64:=by kernel_rfl
def iT:List Int:=DC.map fun x=>(x.toNat:Int)
theorem Xq:(Rows.laid_cachetier_digest_round:DataW Unit)=Lib.tabData .u32 iT:=by kernel_rfl
theorem Vj:(iT.map fun z=>Value.int .u32 z).toArray=(DC.map Bp).toArray:=by kernel_rfl
theorem jM{r:List (String×DataW Unit)}{W:World}(h:laidMet Tryz.prog (("cachetier/digest.round",Rows.laid_cachetier_digest_round)::r) W):
 ∃Tg zg,W.heap[1]?=some (.cells (DC.map Bp).toArray Tg zg):=by
 rw [Xq]at h;have h2:=Lib.tabIs_of_head kK pG underlying339 underlying227 c32 tN h
 unfold Lib.TabIs at h2;rw [Vj]at h2;obtain ⟨Tg,zg,hb⟩:=gJ kK h2;exact ⟨Tg,zg,hb⟩
def oW:Value→Bool
 | .string _=>true
 | .slice _ _ _=>true
 | .bool _=>true
 | .int .i64 _=>true
 |_=>false
theorem kI{W:World}{Tg:TypeId}{zg:Nat×Nat}(h4:W.heap[1]?=some (.cells (DC.map Bp).toArray Tg zg))
 {g i:Nat}{cur:Array Value}{T:TypeId}{z:Nat×Nat}(hb:W.heap[g]?=some (.cells cur T z)){y:Value}(hc:cur[i]?=some y)(ha:oW y=true):g∉ [1]:=by
 intro hm;simp only [uV,wC,or_false]at hm;subst hm;rw [h4]at hb;injection hb with e
 injection e with e1 _ _
 subst e1;rw [yC,uO]at hc;obtain ⟨u,_,rfl⟩:=Option.map_eq_some_iff.1 hc;simp [Bp,oW]at ha
theorem nP{f:FuncId}{args:Array Value}{v:Value}{W:World}{Tg:TypeId}{zg:Nat×Nat}(h4:W.heap[1]?=some (.cells (DC.map Bp).toArray Tg zg))
 (h:Az Tryz.prog f args [[(1,.cells (DC.map Bp).toArray Tg zg)],P8 W [1]] v):
 Calls Tryz.prog f args W fun e w'=>e= .returned v∧Below W.heap.size W w':=
 dh [(1,.cells (DC.map Bp).toArray Tg zg)] (by
  intro c hc;simp only [uV,wC,or_false]at hc;subst hc;exact h4) (by simp) (by simp) h
theorem LF{α:Type}:∀(n:Nat) (p:Nat→α→Prop),(∀i,i<n→∃o,p i o)→∃os:List α,os.length=n∧∀i o,os[i]?=some o→p i o
 |0,_,_=>⟨[],rfl,fun i o h=>by cases h⟩
 |n+1,p,h=>by
  obtain ⟨os,h1,h2⟩:=LF n p (fun i hi=>h i (by omega));obtain ⟨o,ho⟩:=h n (by omega);refine ⟨os++[o],by simp [h1],fun i o' hi=>?_⟩;rw [zT]at hi;split at hi
  · exact h2 i o' hi
  · rename_i hlt
    have:i=n:=by
     have:=(tu.1 hi).1;simp at this;omega
    subst this;rw [h1,y8]at hi;simp only [wL,xI]at hi;subst hi;exact ho
section
variable{H:Type}{enc:TypeId×Value→H}{P:Program}{W:World}{base:Nat}{held:Bool}
theorem YG{t e:TypeId}{s fuel:Nat}{cs:List Value}{x:DataW H×List MemPlace}(ht:P.underlying t=some (.slice e))(hc:P.cellsOf e=s)(hs:0<s)(h:DataW.trod enc P W base (fun _=>true) held fuel t cs=some x):
 ∃p len cap,cs=[.slice p len cap]∧(len≤maxLen∧len≤cap)∧∀i,i<len→∃cs' n z,cs'.length=s∧DataW.trod enc P W base (fun _=>true) held n e cs'=some z∧
  ∃g o cur T zz,p=some ⟨g,o,none⟩∧W.heap[g]?=some (.cells cur T zz)∧∀j,j<s→cur[o+i*s+j]?=cs'[j]?:=by
 rcases open_slice ht h with⟨rfl,_⟩|⟨a,len,cap,m,n,D,Pl,rfl,_,hl,hm,hmm,_,hel⟩
 · exact ⟨none,0,0,rfl,⟨uK _,uG _⟩,fun i hi=>by omega⟩
 · simp only [if_true]at hmm
   subst hmm;refine ⟨some a,len,m,rfl,⟨by omega,hl⟩,fun i hi=>?_⟩;have hsp2:a=⟨a.block,a.off,none⟩:=by
    obtain ⟨cs0,g1,_⟩:=hel 0 (by omega);rw [hc]at g1;obtain ⟨_,glen,gg⟩:=World.cells?_some g1;have g9:=gg 0 hs
    rw [tq (l:=cs0) (i:=0) (by omega),yX,sP,sP]at g9;exact lL g9
   obtain ⟨cs',h1,h2⟩:=hel i (by omega);rw [hc]at h1;obtain ⟨_,hlen,hg⟩:=World.cells?_some h1;refine ⟨cs',n,_,hlen,h2,?_⟩;have h9:=hg 0 hs
   rw [tq (l:=cs') (i:=0) (by omega),hsp2,Cf,Cf]at h9;obtain ⟨cur,T,zz,hb,_⟩:=U6 h9;refine ⟨a.block,a.off,cur,T,zz,by rw [←hsp2],hb,fun j hj=>?_⟩;have h8:=hg j hj
   rw [tq (l:=cs') (i:=j) (by omega)]at h8⊢;rw [hsp2,Cf,Cf]at h8;obtain ⟨cur2,T2,zz2,hb2,hc2⟩:=U6 h8;rw [hb]at hb2;injection hb2 with e
   injection e with e1 _ _
   rw [e1];exact hc2
end
theorem sG:Tryz.prog.cellsOf 3=1:=by kernel_rfl
theorem tO:Tryz.prog.cellsOf 217=6:=by kernel_rfl
theorem WN{H:Type}{enc:TypeId×Value→H}{W:World}{base:Nat}{held:Bool}{Tg:TypeId}{zg:Nat×Nat}(h4:W.heap[1]?=some (.cells (DC.map Bp).toArray Tg zg)){fuel:Nat}{cs:List Value}{x:DataW H×List MemPlace}(h:DataW.trod enc Tryz.prog W base (fun _=>true) held fuel 22 cs=some x):
 ∃v xs,cs=[v]∧Nw (P8 W [1]) v xs:=by
 obtain ⟨p,len,cap,rfl,hl,hel⟩:=YG underlying22 tO (by decide) h;obtain ⟨xs,h1,h2⟩:=LF len (fun i (z:List Int)=>z.length=6∧(∀n∈z,-9223372036854775808≤n∧n≤9223372036854775807)∧∃g o cur T zz,p=some ⟨g,o,none⟩∧(g,Obj.cells cur T zz)∈P8 W [1]∧∀(j:Nat) (n:Int),z[j]?=some n→cur[o+i*6+j]?=some (I4 n)) (fun i hi=>by
  obtain ⟨cs',n,z,hlen,ht,g,o,cur,T,zz,hp,hb,hc⟩:=hel i hi;obtain ⟨ys,m,_,_,_,hyl,hf⟩:=DataW.trod_array underlying217 ht;obtain ⟨ns,hn1,hn2⟩:=LF 6 (fun j (n:Int)=>(-9223372036854775808≤n∧n≤9223372036854775807)∧cs'[j]?=some (I4 n)) (fun j hj=>by
   have f:=hf j hj;rw [sG,xB,tq (by omega)]at f;have hj2:j<cs'.length:=by omega
   have e:(cs'.drop j).take 1=[cs'[j]]:=by rw [vY hj2];rfl
   rw [e]at f;obtain ⟨k,hk,_,hkw⟩:=DataW.trod_int underlying3 f;injection hk with hk _
   exact ⟨k,bounds_i64 hkw,by rw [tq hj2,hk]⟩)
  have hat:∀(j:Nat) (n:Int),ns[j]?=some n→cur[o+i*6+j]?=some (I4 n):=fun j n hj=>by
   have hlt:=(tu.1 hj).1;rw [hc j (by omega)];exact (hn2 j n hj).2
  obtain ⟨n0,hn0⟩:∃n,ns[0]?=some n:=⟨_,tq (by omega)⟩;exact ⟨ns,hn1,fun n hmem=>by
   obtain ⟨j,hj⟩:=uq hmem;exact (hn2 j n hj).1,g,o,cur,T,zz,hp,Qx hb (kI h4 hb (hat 0 n0 hn0) rfl),hat⟩)
 subst h1;exact ⟨_,xs,rfl,p,cap,rfl,hl,h2⟩
end Go.Proofs.YtkdgffcfmgmemaaGreatDoor
