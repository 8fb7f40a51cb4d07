/- statetree: Verify. -/
/- statetree: Same; SameRows; the Same of the reference of layer 2. -/
/- What Prove returns is complete, right, and about the rows of the range: in plain words. -/
/- The integers that a law picks; the rows of a log. -/
/- The fixed example of the law of chapter 10: its rows, and its digests. -/
/- sane of the law of chapter 10. -/
/- What the rows list and what the arguments read as, in chunks. -/
import Derived.Test.YtkdgffcfmgmemaaGreatDoorEz
import Derived.Test.YtkdgffcfmgmemaaGreatDoorTr8
import Derived.Test.YtkdgffcfmgmemaaGreatDoorEx22
import Derived.Test.YtkdgffcfmgmemaaGreatDoorTr3
import Derived.ProofKit
import Derived.OpenShut
import Derived.ChangeOld
import Derived.Deep.Slices
import Derived.SliceStrings
import Derived.Lib.LaidTab
import Derived.Test.YtkdgffcfmgmemaaGreatDoorRows
set_option linter.unusedVariables false
set_option linter.unusedSimpArgs false
namespace Go.Proofs.YtkdgffcfmgmemaaGreatDoor
open Go.Proofs.Tryz
open Go Go.RowKit Gw
set_option maxRecDepth 100000
attribute [local irreducible] Gw.At Gw.Nx Gw.Ops
structure Nh(root:Bs)(x:RP):Prop where
 comp:Fu x
 n16:x.roots.length=16
 np:x.paths.length=x.rows.length
 root:Cq x.roots=root
 sum:∃d:Bs,d.length=32∧x.roots[4*x.tb.toNat+x.cl.toNat]?=some (L6 x.ct++d)∧(x.ct=0→d=Cq [])∧
  (x.ct≠0→∀(k:Nat) (r:AP) (pf:List Bs),x.rows[k]?=some r→x.paths[k]?=some pf→RO d x.ct.toNat (x.fi.toNat+k) (J4 r) pf=true)
noncomputable instance(root:Bs)(x:RP):Decidable (Nh root x):=Classical.propDecidable _
theorem Gc{root:Bs}{x:RP}(h:¬Nh root x):Value.bool false=Value.bool (decide (Nh root x)):=congrArg Value.bool (decide_eq_false h).symm
theorem Mr{a b:Bs}(h:str a=str b):a=b:=by rw [←HV a,←HV b,h]
theorem lX(a b:Bs):(str (a++b)).extract 0 (str a).size=str a:=by
 apply ByteArray.ext;rw [yh,Ba];simp [str]
theorem gK(a b:Bs):(str (a++b)).extract (str a).size (str (a++b)).size=str b:=by
 apply ByteArray.ext;rw [yh,Ba,Ba];simp [str]
theorem oz{s n:Bs}(h:(str s).extract 0 (str n).size=str n):∃d,s=n++d:=by
 have h1:((str s).extract 0 (str n).size).data.toList=n:=by rw [h,HV]
 rw [yh,Ba]at h1;refine ⟨s.drop n.length,?_⟩;conv=>lhs;rw [←uY n.length s]
 congr 1;simp [str]at h1;exact h1
theorem XQ(M:List AR):Dn M (.slice none 0 0) []:=⟨none,0,rfl,⟨by simp,by simp⟩,by intro i s h;simp at h⟩
theorem UQ{n:Int}(h:0≤n):∃k:Nat,n=(k:Int):=⟨n.toNat,by omega⟩
set_option maxHeartbeats 4000000 in
theorem Tz{M:List AR}{v:Value}{x:RP}(hv:PP M v x)(hroots:∀s∈x.roots,s.length≤140737488354000)(hpaths:∀l∈x.paths,l.length≤1000000)(root:Bs)(Tg:TypeId)(zg:Nat×Nat):Av Tryz.prog 41 #[.string (str root),v] [[(1,.cells (Cs.map Bj).toArray Tg zg)],M] (.bool (decide (Nh root x))):=by
 have hml:=mL;obtain ⟨vr,vp,vt,rfl,hR,hP,hT⟩:=id hv;obtain ⟨p,cap,e9,hl,hg⟩:=id hR;subst e9;obtain ⟨p3,cap3,e39,hl3,hg3⟩:=id hP;subst e39;obtain ⟨p4,cap4,e49,hl4,hg4⟩:=id hT;subst e49;refine Se func41 ntmps41 [0,1] ?_;intro u R;refine Zq<|Zg<|Ze (Bx #[_,_,_,_,_,_,_,_,_]) ?_;rintro _ _ ⟨pb,rfl,rfl⟩;refine Za Y<|Z0<|Zx<|Zq<|Zq<|Zg<|Zo Wh (Pa #[I4 x.tb,I4 x.cl,I4 x.lo,I4 x.hi,I4 x.ct,I4 x.fi,.slice p x.rows.length cap,.slice p3 x.paths.length cap3,.slice p4 x.roots.length cap4] isAgg49 sizeOf49 Y) ?_;refine Xr [_] Y call96 Y rfl (M6 hv) ?_;refine Zv (CB Y)<|Zm Y ?_;refine Aj (t:=16) Y rfl (fun hcm=>?_) (fun hcm=>?_)
 ·
  refine A7 Y rfl<|A7 Y rfl<|A7 Y rfl<|A7 Y rfl<|Zv (AL Y Y)<|Zm Y<|A7 Y rfl<|A7 Y rfl<|A7 Y rfl<|A7 Y rfl<|A7 Y rfl<|A7 Y rfl<|A7 Y rfl<|Zv (AL Y Y)<|Zm Y<|A7 Y rfl<|A7 Y rfl<|A7 Y rfl<|A7 Y rfl<|A7 Y rfl<|Zv (AL Y Y)<|Z0<|Zn [3,37] ?_;refine Zx<|CE Y<|Zq<|Zg<|Za Y<|Z0<|Zx<|A9<|Zt ?_;refine AB rfl results41 Y (by exact ⟨Gc (fun h9=>by have h91:=h9.comp;have h92:=h9.n16;have h93:=h9.np;have h94:=h9.root;contradiction),rfl⟩)
 refine Yf 8 underlying49 rfl rfl sizeOf47 Y<|Yl isAgg47 Y ?_;refine Yg (AV underlying47 Y)<|Yg (Dw (n:=16) Y Y)<|Zv (AA Y Y)<|Zm Y ?_;refine Aj (t:=22) Y rfl (fun hc16=>?_) (fun hc16=>?_)
 ·
  refine A7 Y rfl<|A7 Y rfl<|A7 Y rfl<|A7 Y rfl<|A7 Y rfl<|A7 Y rfl<|A7 Y rfl<|Zv (AL Y Y)<|Zm Y<|A7 Y rfl<|A7 Y rfl<|A7 Y rfl<|A7 Y rfl<|A7 Y rfl<|Zv (AL Y Y)<|Z0<|Zn [3,37] ?_;refine Zx<|CE Y<|Zq<|Zg<|Za Y<|Z0<|Zx<|A9<|Zt ?_;refine AB rfl results41 Y (by exact ⟨Gc (fun h9=>by have h91:=h9.comp;have h92:=h9.n16;have h93:=h9.np;have h94:=h9.root;contradiction),rfl⟩)
 refine Yf 7 underlying49 rfl rfl sizeOf46 Y<|Yl isAgg46 Y ?_;refine Yg (AV underlying46 Y)<|Yf 6 underlying49 rfl rfl sizeOf45 Y<|Yl isAgg45 Y ?_;refine Yg (AV underlying45 Y)<|Yg (Dw Y Y)<|Zv (AA Y Y)<|Zm Y ?_;refine Aj (t:=31) Y rfl (fun hcnp=>?_) (fun hcnp=>?_)
 ·
  refine A7 Y rfl<|A7 Y rfl<|A7 Y rfl<|A7 Y rfl<|A7 Y rfl<|Zv (AL Y Y)<|Z0<|Zn [3,37] ?_;refine Zx<|CE Y<|Zq<|Zg<|Za Y<|Z0<|Zx<|A9<|Zt ?_;refine AB rfl results41 Y (by exact ⟨Gc (fun h9=>by have h91:=h9.comp;have h92:=h9.n16;have h93:=h9.np;have h94:=h9.root;contradiction),rfl⟩)
 refine Yf 8 underlying49 rfl rfl sizeOf47 Y<|Yl isAgg47 Y ?_;refine Xr [_] Y call100 Y rfl (Jc hT (by omega) hroots Tg zg) ?_;refine Zf Y Y<|Yg (OE Y Y)<|Zv (AA Y Y)<|Z0<|Zn [3,37] ?_;refine Zx ?_;refine Ao Y (fun hrt=>?_) (fun hrt=>?_)
 ·
  refine Zq<|Zg<|Za Y<|Z0<|Zx<|A9<|Zt ?_;refine AB rfl results41 Y (by exact ⟨Gc (fun h9=>by have h91:=h9.comp;have h92:=h9.n16;have h93:=h9.np;have h94:=h9.root;exact hrt (by rw [h94])),rfl⟩)
 have hcm:=uH.1 hcm;obtain ⟨⟨⟨ht0,ht4⟩,hc0,hc4⟩,_,⟨hn0,hn2⟩,⟨hf0,hf1⟩,hnn,_⟩:=id hcm;obtain ⟨tn,htn⟩:=UQ ht0;obtain ⟨cn,hcn⟩:=UQ hc0;obtain ⟨nn,hnt⟩:=UQ hn0;obtain ⟨fn,hfn⟩:=UQ hf0;obtain ⟨s9,hs9⟩:∃s,x.roots[4*tn+cn]?=some s:=⟨_,tF (by omega)⟩;have hrt2:Cq x.roots=root:=Mr (uH.1 hrt)
 rw [htn,hcn,hnt,hfn];obtain ⟨g4,off4,cur4,T4,zz4,rfl,hm9,hex9⟩:=hg4 _ s9 hs9;have hel:=GR (nn:Int) (by omega) (by omega)
 have hss:=Ba s9;have hse:=Ba (L6 (nn:Int))
 have hsl:=hroots s9 (tV hs9);have hidx:4*x.tb.toNat+x.cl.toNat=4*tn+cn:=by omega
 refine AC<|Zx<|Zq<|Zg<|Zh 4 underlying49 rfl rfl sizeOf3 Y<|Zl isAgg3 Y ?_;refine Xr [_] Y call102 Y rfl (Kk (nn:Int) (by omega) (by omega)) ?_;refine Zm Y<|Zd Y rfl<|Zd Y rfl<|Za Y<|Za Y<|Z0<|Zx<|Zq<|Zg<|Zh 8 underlying49 rfl rfl sizeOf47 Y<|Zl isAgg47 Y ?_;refine Zh 0 underlying49 rfl rfl sizeOf3 Y<|Zl isAgg3 Y ?_;refine BM (Cz (m:=4) Y Y (by first|omega|(simp;omega))) ?_;refine Zh 1 underlying49 rfl rfl sizeOf3 Y<|Zl isAgg3 Y ?_;refine BM (D6 Y Y (by first|omega|(simp;omega))) ?_;refine BM (BS underlying47 sizeOf9 Y Y (by first|omega|decide|(simp;done))) ?_;refine Cf (cs:=[(g4,.cells cur4 T4 zz4)]) (by simp [hm9]) (Bf isAgg9 Y (by exact hex9)) rfl rfl ?_;refine Za Y<|Z0<|Zn [3,5,7] ?_;refine Zx<|Zq<|Zq<|Zg<|Zm Y<|Zv (EN underlying9 Y)<|Zm Y<|Zv (EN underlying9 Y)<|Ya (n:=32) Y Y<|Zv (Dw Y Y)<|Zm Y ?_;refine Aj (t:=60) Y rfl (fun hsz=>?_) (fun hsz=>?_)
 ·
  refine A7 Y rfl<|A7 Y rfl<|A7 Y rfl<|A7 Y rfl<|A7 Y rfl<|A7 Y rfl<|Zv (AL Y Y)<|Z0<|Zn [3,5,7,67] ?_;refine Zx<|CE Y<|Zq<|Zg<|Za Y<|Z0<|Zx<|A9<|Zt ?_;refine AB rfl results41 Y (by exact ⟨Gc (fun h9=>by obtain ⟨d,hd,hd2,_⟩:=h9.sum;rw [hidx,hs9,hnt]at hd2;injection hd2 with hd2;subst hd2;exact hsz (by rw [hss,hse,tK,hd])),rfl⟩)
 refine Zf Y Y<|Zf Y Y<|Yg (EN underlying9 Y) ?_
 (refine FX Y (QT underlying9 Y Y ?_) rfl rfl ?_;(focus (first|omega|(simp;omega))))
 refine Zf Y Y<|Yg (OE Y Y)<|Zv (AA Y Y)<|Z0<|Zn [3,5,7,67] ?_;refine Zx ?_;refine Ao Y (fun hpx=>?_) (fun hpx=>?_)
 ·
  refine Zq<|Zg<|Za Y<|Z0<|Zx<|A9<|Zt ?_;refine AB rfl results41 Y (by exact ⟨Gc (fun h9=>by obtain ⟨d,hd,hd2,_⟩:=h9.sum;rw [hidx,hs9,hnt]at hd2;injection hd2 with hd2;subst hd2;exact hpx (lX _ _)),rfl⟩)
 obtain ⟨d9,rfl⟩:=oz (uH.1 hpx);have hd32:d9.length=32:=by rw [hse,Ba,tK]at hsz;omega
 refine AC<|Zx<|Zq<|Zg<|Zm Y<|Zm Y<|Zv (EN underlying9 Y) ?_;refine BM (OA underlying9 Y Y (by rw [Ba,Ba,tK];omega)) ?_;refine Za Y<|Z0<|Zx<|Zq<|Zq ?_;rw [gK];refine Zg<|Zh 4 underlying49 rfl rfl sizeOf3 Y<|Zl isAgg3 Y ?_;refine Zv (C8 (n:=0) Y Y)<|Z0<|Zx ?_;refine Ao Y (fun hz=>?_) (fun hz=>?_)
 ·
  refine Zq<|Zg<|Zm Y<|Xr [_] Y call100 Y rfl (Jc (XQ M) (by simp) (by simp) Tg zg) ?_;refine Zv (OI Y Y)<|Za Y<|Z0<|Zx<|A9<|Zt ?_;refine AB rfl results41 Y (by exact ⟨GU ⟨fun h9=>⟨hcm,by omega,by omega,hrt2,d9,hd32,by rw [hidx,hs9,hnt],fun _=>Mr h9,fun h0=>by omega⟩,fun h9=>by obtain ⟨d,hd,hd2,hd3,_⟩:=h9.sum;rw [hidx,hs9,hnt]at hd2;injection hd2 with hd2;rw [zn hd2,hd3 (by omega)]⟩,rfl⟩)
 refine AC<|Zx<|Zq<|Zq<|Zg<|Zh 6 underlying49 rfl rfl sizeOf45 Y<|Zl isAgg45 Y ?_;refine Zv (AV underlying45 Y)<|Zm Y<|Z0<|Zx<|AQ<|Zb [81,3,8,79,80] ?_;refine Az (e0:=[(81,_)]) (fun m e H=>∃(k:Nat),m=x.rows.length -k∧(k≤x.rows.length∧∀(j:Nat) (r:AP) (pf:List Bs),j<k→x.rows[j]?=some r→x.paths[j]?=some pf→RO d9 nn (fn+j) (J4 r) pf=true)∧e=[(81,I4 (k:Int))]∧H=[]) (by exact ⟨0,rfl,⟨tX _,by intro j r pf hj;omega⟩,rfl,rfl⟩) Wp ?_;rintro _ _ _ ⟨k,rfl,⟨hk,hall⟩,rfl,rfl⟩;refine Zq<|Zg<|Zv (Aq Y Y)<|Z0<|Zx<|Zq ?_;refine Ao Y (fun hlt=>?_) (fun hlt=>?_)
 ·
  obtain ⟨r,hr⟩:∃r,x.rows[k]?=some r:=⟨_,tF hlt⟩;obtain ⟨g,off,cur,T,zz,rfl,hm99,hsz9,hex99⟩:=hg k r hr;obtain ⟨pf,hpf⟩:∃pf,x.paths[k]?=some pf:=⟨_,tF (by omega)⟩;obtain ⟨q6,c6,hu6,g6,off6,cur6,T6,zz6,rfl,hm6,hex6⟩:=hg3 k pf hpf;have hro:=(hcm.all k r hr).1.1
  refine AC<|Zx<|Zq<|AQ<|Zq<|Zg<|Zm Y ?_;refine BM (AU underlying45 sizeOf113 Y Y (by first|omega|decide|(simp;done))) ?_;refine Cf (cs:=[(g,.cells cur T zz)]) (by simp [hm99]) (AX (cs:=#[I4 r.t,I4 r.k,I4 r.v.a,I4 r.v.b,I4 r.v.c]) isAgg113 sizeOf113 Y (by omega) hex99) rfl rfl ?_;refine Ze (Al zeroValue113 #[_,_,_,_,_]) ?_;rintro _ _ ⟨rb,rfl,rfl⟩;refine Za Y<|Xe (Xw sizeOf113 #[I4 r.t,I4 r.k,I4 r.v.a,I4 r.v.b,I4 r.v.c]) ?_;refine Z0<|Zx<|Zq<|Zg<|Zo Wh (Pa #[_,_,_,_,_] isAgg113 sizeOf113 Y) ?_;refine Xr [_] Y call103 Y rfl (SS r hro) ?_;refine Zm Y<|Zd Y rfl<|Zd Y rfl<|Za Y<|Za Y<|Z0<|Zn [3,8,9,11,79,80,81] ?_;refine Zx<|Zq<|BI (n:=15) (0::0::2::0::8::0::56::0::0::256::0::1792::3840::8191::16383::[]) 8192 (by kernel_rfl) (by kernel_rfl) rfl ?_;refine Zi 1 0 rfl (AJ Y)<|Zi 3 1 rfl (AZ (off:=4) underlying49 rfl rfl sizeOf3 Y)<|Zj 7 2 rfl isAgg3 Y ?_;refine Zi 15 3 rfl (AZ (off:=5) underlying49 rfl rfl sizeOf3 Y)<|Zj 31 4 rfl isAgg3 Y ?_;refine Zi 63 5 rfl (AJ Y) ?_;refine Zi 127 6 rfl (D6 Y Y (by first|omega|(simp;omega))) ?_;refine Zi 255 7 rfl (AJ Y)<|Zi 511 8 rfl (AZ (off:=7) underlying49 rfl rfl sizeOf46 Y)<|Zj 1023 9 rfl isAgg46 Y ?_;refine Zi 2047 10 rfl (AJ Y) ?_;refine Zi 4095 11 rfl (BS underlying46 sizeOf47 Y Y (by first|omega|decide|(simp;done))) ?_;refine Fp (b:=g6) (x:= .cells cur6 T6 zz6) (D':=8191) 12 rfl rfl rfl (by simp [hm6]) (Bf isAgg47 Y (by exact hex6)) ?_;refine Yw 13 16383 rfl (Zu [_,_,_,_,_] Y call104 Y rfl (V7 hu6 (hpaths pf (tV hpf)) d9 (J4 r) (by have:=R6 hro;omega) nn (fn+k) (by omega) (by omega) Tg zg)) ?_;rintro _ _ ⟨rfl,rfl⟩;refine Zi 32767 14 rfl (Ca Y)<|Am ?_;refine Zn [3,8,79,80,81,105] ?_;refine Zx ?_;refine Af Y (fun hvf=>?_) (fun hvf=>?_)
  ·
   refine Zq<|Zg<|Za Y<|Z0<|Zx<|A9<|AY<|Zt<|Zt<|AY<|Zt ?_;refine AB rfl results41 Y (by exact ⟨Gc (fun h9=>by obtain ⟨d,hd,hd2,_,hd4⟩:=h9.sum;rw [hidx,hs9,hnt]at hd2;injection hd2 with hd2;have hd3:=zn hd2;have h5:=hd4 (by omega) k r pf hr hpf;rw [←hd3,show x.ct.toNat=nn by omega,show x.fi.toNat=fn by omega]at h5;simp [h5]at hvf),rfl⟩)
  refine AC<|A8<|Zx<|Zg<|Ya (n:=1) Y Y<|Zm Y<|Z0<|Zn [81,3,8,79,80] ?_;refine Ab (e':=[(81,_)]) (by
   exact ⟨k+1,rfl,⟨by omega,fun j r9 pf9 hj hr9 hp9=>by
    rcases uJ j k with h9|h9
    · exact hall j r9 pf9 h9 hr9 hp9
    · obtain rfl:j=k:=(by omega)
      rw [hr]at hr9;injection hr9 with hr9;subst hr9
      rw [hpf]at hp9;injection hp9 with hp9;subst hp9
      simpa using hvf⟩,rfl,rfl⟩)
 refine Ar<|Zt<|Zt<|AO<|Zx<|Zq<|Zg<|Za Y<|Z0<|Zx<|A9 ?_;refine AB rfl results41 Y (by exact ⟨congrArg Value.bool (decide_eq_true (show Nh root x from⟨hcm,by omega,by omega,hrt2,d9,hd32,by rw [hidx,hs9,hnt],fun h0=>by omega,fun h0 j r pf hj hp=>by rw [show x.ct.toNat=nn by omega,show x.fi.toNat=fn by omega];exact hall j r pf (by have:=(tH.1 hj).1;omega) hj hp⟩)).symm,rfl⟩)
theorem Wm{M:List AR}{va vb:Value}{a b:List Bs}(ha:Dn M va a)(hb:Dn M vb b):Av Tryz.prog 160 #[va,vb] [M] (.bool (decide (a=b))):=by
 have hml:=mL;obtain ⟨pa,ca,rfl,hla,hga⟩:=ha;obtain ⟨pb,cb,rfl,hlb,hgb⟩:=hb;refine Se func160 ntmps160 [0,1] ?_;intro u R;refine Zq<|Zg<|Za Y<|Z0<|Zx<|Zq<|Zq<|Zg<|Zm Y<|Zv (AV underlying47 Y)<|Zm Y<|Zv (AV underlying47 Y)<|Zv (Dw Y Y)<|Z0<|Zx ?_;refine Ao Y (fun hne=>?_) (fun hne=>?_)
 ·
  refine Zq<|Zg<|Za Y<|Z0<|Zx<|A9<|Zt ?_;refine AB rfl results160 Y (by exact ⟨E5 (fun e=>hne (by rw [e])),rfl⟩)
 have hle:a.length=b.length:=by omega
 refine AC<|Zx<|Zq<|Zq<|Zg<|Zm Y<|Zv (AV underlying47 Y)<|Zm Y<|Z0<|Zx<|AQ<|Zb [13,0,1,12] ?_;refine Az (e0:=[(13,_)]) (fun m e H=>∃(i:Nat),m=a.length -i∧(i≤a.length∧∀j,j<i→a[j]?=b[j]?)∧e=[(13,I4 (i:Int))]∧H=[]) (by exact ⟨0,rfl,⟨tX _,by intro j hj;omega⟩,rfl,rfl⟩) Wp ?_;rintro _ _ _ ⟨i,rfl,⟨hi,hall⟩,rfl,rfl⟩;refine Zq<|Zg<|Zv (Aq Y Y)<|Z0<|Zx<|Zq ?_;refine Ao Y (fun hlt=>?_) (fun hlt=>?_)
 ·
  obtain ⟨x,hx⟩:∃x,a[i]?=some x:=⟨_,tF (by omega)⟩;obtain ⟨y,hy⟩:∃y,b[i]?=some y:=⟨_,tF (by omega)⟩;obtain ⟨g1,off1,cur1,T1,zz1,rfl,hm1,hex1⟩:=hga i x hx;obtain ⟨g2,off2,cur2,T2,zz2,rfl,hm2,hex2⟩:=hgb i y hy;refine AC<|Zx<|Zq<|AQ<|Zq<|Zg<|Zm Y<|Za Y<|Z0<|Zx<|Zq<|BI (n:=9) (0::0::3::7::0::0::48::112::255::[]) 0 (by kernel_rfl) (by kernel_rfl) rfl ?_;refine Zi 1 0 rfl (AJ Y)<|Zi 3 1 rfl (AJ Y) ?_;refine Zi 7 2 rfl (BS underlying47 sizeOf9 Y Y (by omega)) ?_;refine Fp (b:=g1) (x:= .cells cur1 T1 zz1) (D':=15) 3 rfl rfl rfl (by simp [hm1]) (Bf isAgg9 Y (by exact hex1)) ?_;refine Zi 31 4 rfl (AJ Y)<|Zi 63 5 rfl (AJ Y) ?_;refine Zi 127 6 rfl (BS underlying47 sizeOf9 Y Y (by omega)) ?_;refine Fp (b:=g2) (x:= .cells cur2 T2 zz2) (D':=255) 7 rfl rfl rfl (by simp [hm2]) (Bf isAgg9 Y (by exact hex2)) ?_;refine Zi 511 8 rfl (OE Y Y)<|Am ?_;refine Zx ?_;refine Ao Y (fun hd=>?_) (fun hd=>?_)
  ·
   refine Zq<|Zg<|Za Y<|Z0<|Zn [4] ?_;refine Zx<|A9<|AY<|Zt<|Zt<|AY<|Zt ?_;refine AB rfl results160 Y (by exact ⟨E5 (fun e=>by rw [e,hy]at hx;injection hx with hx;exact hd (by rw [hx])),rfl⟩)
  have heq:x=y:=Mr (uH.1 hd);refine AC<|A8<|Zx<|Zg<|Ya (n:=1) Y Y<|Zm Y<|Z0<|Zn [13,0,1,12] ?_;refine Ab (e':=[(13,_)]) (by exact ⟨i+1,rfl,⟨by omega,fun j hj=>by rcases uJ j i with h9|h9;exact hall j h9;obtain rfl:j=i:=(by omega);rw [hx,hy];exact congrArg some heq⟩,rfl,rfl⟩)
 refine Ar<|Zt<|Zt<|AO<|Zx<|Zq<|Zg<|Za Y<|Z0<|Zx<|A9 ?_;refine AB rfl results160 Y (by exact ⟨Jr (Lf hle (fun j hj=>hall j (by omega))),rfl⟩)
theorem VM{a b:RP}:a=b↔a.paths=b.paths∧(a.tb=b.tb∧a.cl=b.cl∧a.lo=b.lo∧a.hi=b.hi∧a.ct=b.ct∧a.fi=b.fi)∧a.rows=b.rows∧a.roots=b.roots:=by
 obtain ⟨a1,a2,a3,a4,a5,a6,a7,a8,a9⟩:=a;obtain ⟨b1,b2,b3,b4,b5,b6,b7,b8,b9⟩:=b;simp only [RP.mk.injEq];constructor
 · rintro ⟨h1,h2,h3,h4,h5,h6,h7,h8,h9⟩;exact ⟨h8,⟨h1,h2,h3,h4,h5,h6⟩,h7,h9⟩
 · rintro ⟨h8,⟨h1,h2,h3,h4,h5,h6⟩,h7,h9⟩;exact ⟨h1,h2,h3,h4,h5,h6,h7,h8,h9⟩
theorem XV{M:List AR}{va vb:Value}{a b:List Bs}(ha:Dn M va a)(hb:Dn M vb b):Av Tryz.prog 159 #[va,vb] [M] (.bool (decide (a=b))):=by
 refine Se func159 ntmps159 [0,1] ?_;intro u R;refine Zq<|Zg<|Za Y<|Z0<|Zx<|Zq<|Zg<|Zm Y<|Zm Y<|Xr [_,_] Y call160 Y rfl (Wm ha hb) ?_;refine Za Y<|Z0<|Zx<|A9 ?_;refine AB rfl results159 Y (by exact ⟨rfl,rfl⟩)
theorem kL{M:List AR}{va vb:Value}{a b:List (List Bs)}(ha:JZ M va a)(hb:JZ M vb b):Av Tryz.prog 228 #[va,vb,.func (.func 159) #[] #[]] [M] (.bool (decide (a=b))):=by
 have hml:=mL;obtain ⟨pa,ca,rfl,hla,hga⟩:=ha;obtain ⟨pb,cb,rfl,hlb,hgb⟩:=hb;refine Se func228 ntmps228 [0,1,2] ?_;intro u R;refine Zq<|Zg<|Za Y<|Z0<|Zx<|Zq<|Zq<|Zg<|Zm Y<|Zv (AV underlying46 Y)<|Zm Y<|Zv (AV underlying46 Y)<|Zv (Dw Y Y)<|Z0<|Zx ?_;refine Ao Y (fun hne=>?_) (fun hne=>?_)
 ·
  refine Zq<|Zg<|Za Y<|Z0<|Zx<|A9<|Zt ?_;refine AB rfl results228 Y (by exact ⟨E5 (fun e=>hne (by rw [e])),rfl⟩)
 have hle:a.length=b.length:=by omega
 refine AC<|Zx<|Zq<|Zq<|Zg<|Zm Y<|Zv (AV underlying46 Y)<|Zm Y<|Z0<|Zx<|AQ<|Zb [17,1,2,15,16] ?_;refine Az (e0:=[(17,_)]) (fun m e H=>∃(i:Nat),m=a.length -i∧(i≤a.length∧∀j,j<i→a[j]?=b[j]?)∧e=[(17,I4 (i:Int))]∧H=[]) (by exact ⟨0,rfl,⟨tX _,by intro j hj;omega⟩,rfl,rfl⟩) Wp ?_;rintro _ _ _ ⟨i,rfl,⟨hi,hall⟩,rfl,rfl⟩;refine Zq<|Zg<|Zv (Aq Y Y)<|Z0<|Zx<|Zq ?_;refine Ao Y (fun hlt=>?_) (fun hlt=>?_)
 ·
  obtain ⟨x,hx⟩:∃x,a[i]?=some x:=⟨_,tF (by omega)⟩;obtain ⟨y,hy⟩:∃y,b[i]?=some y:=⟨_,tF (by omega)⟩;obtain ⟨q1,c1,hu1,g1,off1,cur1,T1,zz1,rfl,hm1,hex1⟩:=hga i x hx;obtain ⟨q2,c2,hu2,g2,off2,cur2,T2,zz2,rfl,hm2,hex2⟩:=hgb i y hy;refine AC<|Zx<|Zq<|AQ<|Zq<|Zg<|Zm Y ?_;refine BM (BS underlying46 sizeOf47 Y Y (by omega)) ?_;refine Cf (cs:=[(g1,.cells cur1 T1 zz1)]) (by simp [hm1]) (Bf isAgg47 Y (by exact hex1)) rfl rfl ?_;refine Za Y<|Za Y<|Z0<|Zx<|Zq<|Zg<|Zm Y<|Zm Y ?_;refine BM (BS underlying46 sizeOf47 Y Y (by omega)) ?_;refine Cf (cs:=[(g2,.cells cur2 T2 zz2)]) (by simp [hm2]) (Bf isAgg47 Y (by exact hex2)) rfl rfl ?_;refine Za Y<|Z0<|Zx<|Zq<|Zg<|Zm Y<|Zm Y<|Zm Y<|Xr [_,_] Y call159 Y rfl (XV hu1 hu2) ?_;refine Zv (CB Y)<|Z0<|Zn [1,2,15,16,17,30] ?_;refine Zx ?_;refine Ao Y (fun hd=>?_) (fun hd=>?_)
  ·
   refine Zq<|Zg<|Za Y<|Z0<|Zx<|A9<|AY<|Zt<|Zt<|AY<|Zt ?_;refine AB rfl results228 Y (by exact ⟨E5 (fun e=>by rw [e,hy]at hx;injection hx with hx;exact hd hx.symm),rfl⟩)
  have heq:x=y:=uH.1 hd;refine AC<|A8<|Zx<|Zg<|Ya (n:=1) Y Y<|Zm Y<|Z0<|Zn [17,1,2,15,16] ?_;refine Ab (e':=[(17,_)]) (by exact ⟨i+1,rfl,⟨by omega,fun j hj=>by rcases uJ j i with h9|h9;exact hall j h9;obtain rfl:j=i:=(by omega);rw [hx,hy];exact congrArg some heq⟩,rfl,rfl⟩)
 refine Ar<|Zt<|Zt<|AO<|Zx<|Zq<|Zg<|Za Y<|Z0<|Zx<|A9 ?_;refine AB rfl results228 Y (by exact ⟨Jr (Lf hle (fun j hj=>hall j (by omega))),rfl⟩)
theorem Yq{M:List AR}{va vb:Value}{a b:List (List Bs)}(ha:JZ M va a)(hb:JZ M vb b):Av Tryz.prog 158 #[va,vb,.func (.func 159) #[] #[]] [M] (.bool (decide (a=b))):=by
 refine Se func158 ntmps158 [0,1,2] ?_;intro u R;refine Zq<|Zg<|Za Y<|Z0<|Zx<|Zq<|Zg<|Zm Y<|Zm Y<|Zm Y<|Xr [_,_,_] Y call228 Y rfl (kL ha hb) ?_;refine Za Y<|Z0<|Zx<|A9 ?_;refine AB rfl results158 Y (by exact ⟨rfl,rfl⟩)
theorem TL(x:RP)(vr vp vt:Value):Av Tryz.prog 157 #[.agg #[I4 x.tb,I4 x.cl,I4 x.lo,I4 x.hi,I4 x.ct,I4 x.fi,vr,vp,vt]] [] (.agg #[I4 x.tb,I4 x.cl,I4 x.lo,I4 x.hi,I4 x.ct,I4 x.fi]):=by
 refine Se func157 ntmps157 [0] ?_;intro u R;refine Zq<|Zg<|Ze (Bx #[_,_,_,_,_,_,_,_,_]) ?_;rintro _ _ ⟨b1,rfl,rfl⟩;refine Ze (Al zeroValue217 #[_,_,_,_,_,_]) ?_;rintro _ _ ⟨b2,rfl,rfl⟩;refine Z0<|Zx<|Zq<|Zg<|Zh 0 underlying49 rfl rfl sizeOf3 Y<|Zl isAgg3 Y ?_;refine Zh 1 underlying49 rfl rfl sizeOf3 Y<|Zl isAgg3 Y ?_;refine Zh 2 underlying49 rfl rfl sizeOf3 Y<|Zl isAgg3 Y ?_;refine Zh 3 underlying49 rfl rfl sizeOf3 Y<|Zl isAgg3 Y ?_;refine Zh 4 underlying49 rfl rfl sizeOf3 Y<|Zl isAgg3 Y ?_;refine Zh 5 underlying49 rfl rfl sizeOf3 Y<|Zl isAgg3 Y ?_;refine Zv (BK (vs:=[(0,I4 x.tb),(1,I4 x.cl),(2,I4 x.lo),(3,I4 x.hi),(4,I4 x.ct),(5,I4 x.fi)]) (cs:=#[I4 x.tb,I4 x.cl,I4 x.lo,I4 x.hi,I4 x.ct,I4 x.fi]) Y (Ch zeroValue217 underlying217 sizeOf3 (by kernel_rfl))) ?_;refine Xe (Xw sizeOf217 #[I4 x.tb,I4 x.cl,I4 x.lo,I4 x.hi,I4 x.ct,I4 x.fi]) ?_;refine Z0<|Zn [2] ?_;refine Zx<|A9 ?_;refine D7 rfl results157 Y Wh (Ah isAgg217 sizeOf217 Wn (rfl)) (by exact ⟨rfl,rfl⟩)
theorem av{M:List AR}{va vb:Value}{a b:RP}(ha:PP M va a)(hb:PP M vb b):Av Tryz.prog 82 #[va,vb] [M] (.bool (decide (a=b))):=by
 obtain ⟨vr1,vp1,vt1,rfl,hR1,hP1,hT1⟩:=ha;obtain ⟨vr2,vp2,vt2,rfl,hR2,hP2,hT2⟩:=hb;refine Se func82 ntmps82 [0,1] ?_;intro u R;refine Zq<|Zg<|Ze (Bx #[_,_,_,_,_,_,_,_,_]) ?_;rintro _ _ ⟨b1,rfl,rfl⟩;refine Ze (Bx #[_,_,_,_,_,_,_,_,_]) ?_;rintro _ _ ⟨b2,rfl,rfl⟩;refine Za Y<|Z0<|Zx<|Zq<|Zg<|Za Y<|Z0<|Zx<|Zq<|Zg<|Zh 7 underlying49 rfl rfl sizeOf46 Y<|Zl isAgg46 Y ?_;refine Zh 7 underlying49 rfl rfl sizeOf46 Y<|Zl isAgg46 Y ?_;refine Xr [_,_,_] Y call158 Y rfl (Yq hP1 hP2) ?_;refine Za Y<|Z0<|Zx<|Zq<|BI (n:=25) (0::1::3::3::15::3::3::127::255::511::1023::2047::4095::2047::10239::32767::65535::131071::262143::524287::262143::1310719::4194303::8388607::16777215::[]) 4227216 (by kernel_rfl) (by kernel_rfl) rfl ?_;refine Zi 1 0 rfl (AJ Y)<|Zi 3 1 rfl (AJ Y) ?_;refine CS (t:=13) Y (fun h1=>?_) (fun h1=>?_)
 ·
  first|rw [decide_eq_true h1]|rw [h1]|skip
  refine Ag (D':=7) 2 Y rfl rfl rfl (AJ Y) ?_;refine Bl (D':=15) 3 Y rfl rfl rfl Wh (Pa #[_,_,_,_,_,_,_,_,_] isAgg49 sizeOf49 Y) ?_;refine Ag (D':=47) 5 Y rfl rfl rfl (AJ Y) ?_;refine Bl (D':=111) 6 Y rfl rfl rfl Wh (Pa #[_,_,_,_,_,_,_,_,_] isAgg49 sizeOf49 Y) ?_;refine Yz 4 15 127 [6,3] [true,false] [(6,(_,_))] rfl Y rfl rfl rfl rfl (Zu [_] Y call157 Y rfl (TL a vr1 vp1 vt1)) ?_;rintro _ _ ⟨rfl,rfl⟩;refine ⟨Zk (Ad),?_⟩;refine Yw 7 255 rfl (Zu [_] Y call157 Y rfl (TL b vr2 vp2 vt2)) ?_;rintro _ _ ⟨rfl,rfl⟩;refine Ag (D':=511) 8 Y rfl rfl rfl (Xy (by kernel_rfl) underlying217 underlying3 isAgg3 sizeOf3 Y Y) ?_;refine Zi 1023 9 rfl (AL Y Y)<|Zi 2047 10 rfl (AJ Y) ?_;refine CS (t:=22) Y (fun h2=>?_) (fun h2=>?_)
  ·
   first|rw [decide_eq_true h2]|rw [h2]|skip
   refine Ag (D':=4095) 11 Y rfl rfl rfl (AZ (off:=6) underlying49 rfl rfl sizeOf45 Y) ?_;refine Bl (D':=8191) 12 Y rfl rfl rfl Wh (Bf isAgg45 Y (by rfl)) ?_;refine Ag (D':=16383) 13 Y rfl rfl rfl (AZ (off:=6) underlying49 rfl rfl sizeOf45 Y) ?_;refine Bl (D':=32767) 14 Y rfl rfl rfl Wh (Bf isAgg45 Y (by rfl)) ?_;refine Yw 15 65535 rfl (Zu [_,_] Y call88 Y rfl (Wq hR1 hR2)) ?_;rintro _ _ ⟨rfl,rfl⟩;refine Zi 131071 16 rfl (AL Y Y)<|Zi 262143 17 rfl (AJ Y) ?_;refine CS (t:=29) Y (fun h3=>?_) (fun h3=>?_)
   ·
    first|rw [decide_eq_true h3]|rw [h3]|skip
    refine Ag (D':=524287) 18 Y rfl rfl rfl (AZ (off:=8) underlying49 rfl rfl sizeOf47 Y) ?_;refine Bl (D':=1048575) 19 Y rfl rfl rfl Wh (Bf isAgg47 Y (by rfl)) ?_;refine Ag (D':=2097151) 20 Y rfl rfl rfl (AZ (off:=8) underlying49 rfl rfl sizeOf47 Y) ?_;refine Bl (D':=4194303) 21 Y rfl rfl rfl Wh (Bf isAgg47 Y (by rfl)) ?_;refine Yw 22 8388607 rfl (Zu [_,_] Y call160 Y rfl (Wm hT1 hT2)) ?_;rintro _ _ ⟨rfl,rfl⟩;refine Zi 16777215 23 rfl (AL Y Y)<|Zi 33554431 24 rfl (Ay Y)<|Am ?_;refine Zn [4] ?_;refine Zx<|A9 ?_;refine AB rfl results82 Y (by exact ⟨by exact GU ⟨fun h9=>VM.2 ⟨h1,h2,h3,h9⟩,fun h9=>(VM.1 h9).2.2.2⟩,rfl⟩)
   first|rw [decide_eq_false h3]|rw [h3]|skip
   refine Yk 524287 18 rfl<|Yk 1048575 19 rfl<|Yk 2097151 20 rfl<|Yk 4194303 21 rfl<|Yk 8388607 22 rfl<|Zi 16777215 23 rfl (AA Y Y)<|Zi 33554431 24 rfl (Ay Y)<|Am ?_;refine Zn [4] ?_;refine Zx<|A9 ?_;refine AB rfl results82 Y (by exact ⟨by exact E5 (fun e=>h3 (VM.1 e).2.2.1),rfl⟩)
  first|rw [decide_eq_false h2]|rw [h2]|skip
  refine Yk 4095 11 rfl<|Yk 8191 12 rfl<|Yk 16383 13 rfl<|Yk 32767 14 rfl<|Yk 65535 15 rfl<|Zi 131071 16 rfl (AA Y Y)<|Zi 262143 17 rfl (AJ Y)<|Yk 524287 18 rfl<|Yk 1048575 19 rfl<|Yk 2097151 20 rfl<|Yk 4194303 21 rfl<|Yk 8388607 22 rfl<|Zi 16777215 23 rfl (AA Y Y)<|Zi 33554431 24 rfl (Ay Y)<|Am ?_;refine Zn [4] ?_;refine Zx<|A9 ?_;refine AB rfl results82 Y (by exact ⟨by exact E5 (fun e=>h2 (VM.1 e).2.1),rfl⟩)
 first|rw [decide_eq_false h1]|rw [h1]|skip
 refine Yk 7 2 rfl<|Yk 15 3 rfl<|Yk 31 4 rfl<|Yk 63 5 rfl<|Yk 127 6 rfl<|Yk 255 7 rfl<|Yk 511 8 rfl<|Zi 1023 9 rfl (AA Y Y)<|Zi 2047 10 rfl (AJ Y)<|Yk 4095 11 rfl<|Yk 8191 12 rfl<|Yk 16383 13 rfl<|Yk 32767 14 rfl<|Yk 65535 15 rfl<|Zi 131071 16 rfl (AA Y Y)<|Zi 262143 17 rfl (AJ Y)<|Yk 524287 18 rfl<|Yk 1048575 19 rfl<|Yk 2097151 20 rfl<|Yk 4194303 21 rfl<|Yk 8388607 22 rfl<|Zi 16777215 23 rfl (AA Y Y)<|Zi 33554431 24 rfl (Ay Y)<|Am ?_;refine Zn [4] ?_;refine Zx<|A9 ?_;refine AB rfl results82 Y (by exact ⟨by exact E5 (fun e=>h1 (VM.1 e).1),rfl⟩)
theorem Nq(s:Bs):∀(n:Nat) (l:List Bs) (i:Nat),l.length≤n→l[i]?=some s→Mm s l.length i (Dy l i).reverse=some (Cq l)
 |n,l,i,hn,hi=>by
  have hlt:=(tH.1 hi).1;rcases uJ l.length 2 with h|h
  · match l,hi with
    |[x],hi=>
     have h0:i=0:=by simp at hlt;exact hlt
     subst h0;simp at hi;subst hi;rw [LZ (by simp),QA];rfl
    |[],hi=>simp at hi
    |x::y::l,hi=>simp only [tY]at h;omega
  · have h1:=IY h
    have h2:=Hu l.length
    match n,hn with
    |0,hn=>omega
    |n+1,hn=>
    have ht:(l.take (Bq l.length)).length=Bq l.length:=by rw [tL];omega
    have hd:(l.drop (Bq l.length)).length=l.length -Bq l.length:=tN;by_cases hk:i<Bq l.length
    · have ih:=Nq s n (l.take (Bq l.length)) i (by omega) (by rw [uX,if_pos hk];exact hi)
      rw [ht]at ih;rw [JF h hk,wX];show Mm s l.length i (Cq (l.drop (Bq l.length))::(Dy (l.take (Bq l.length)) i).reverse)=_
      rw [SF h hk,ih,LX h];rfl
    · have ih:=Nq s n (l.drop (Bq l.length)) (i -Bq l.length) (by omega) (by rw [uw,show Bq l.length+(i -Bq l.length)=i by omega];exact hi)
      rw [hd]at ih;rw [IW h hk,wX];show Mm s l.length i (Cq (l.take (Bq l.length))::(Dy (l.drop (Bq l.length)) (i -Bq l.length)).reverse)=_
      rw [Pf h hk,ih,LX h];rfl
theorem aX{l:List Bs}{i:Nat}{s:Bs}(hi:l[i]?=some s):RO (Cq l) l.length i s (Dy l i)=true:=by
 unfold RO;rw [Nq s l.length l i (tQ _) hi];have h:(Dy l i).any PH=false:=by
  rw [List.any_eq_false];intro x hx;simp [PH,JV l.length l i (tQ _) x hx]
 rw [h];simp
theorem Qx{pd:AP→Bool}:∀{l:List AP} {i:Nat} {x:AP},i<CV pd l→l[i]?=some x→pd x=false
 |[],i,x,_,hx=>by simp at hx
 |z::l,i,x,hi,hx=>by
  unfold CV at hi;rw [wY]at hi;by_cases hz:pd z=true
  · rw [if_neg (by simp [hz])]at hi;simp at hi
  · have hz':pd z=false:=by simpa using hz
    rw [if_pos (by simp [hz'])]at hi;rcases i with _|i
    · simp at hx;rw [←hx];exact hz'
    · simp only [wI]at hx
      exact Qx (l:=l) (by unfold CV;simp at hi;omega) hx
theorem OW{pd:AP→Bool}:∀{l:List AP} {x:AP},l[CV pd l]?=some x→pd x=true
 |[],x,hx=>by simp at hx
 |z::l,x,hx=>by
  unfold CV at hx;rw [wY]at hx;by_cases hz:pd z=true
  · rw [if_neg (by simp [hz])]at hx;simp at hx;rw [←hx];exact hz
  · have hz':pd z=false:=by simpa using hz
    rw [if_pos (by simp [hz'])]at hx;simp only [tY,wI]at hx;exact OW (l:=l) hx
def ltV(c:Nat)(a b:AP):Prop:=DR a c<DR b c∨DR a c=DR b c∧a.k<b.k
theorem QZ{rs:List AP}(hs:BJ rs)(t:Int)(c:Nat):(BC rs t c).Pairwise (ltV c):=by
 have h1:=EY hs t c (-1000000000) 1000000000;have h2:(rs.filter (inR t c (-1000000000) 1000000000)).Pairwise (fun a b=>a.k≠b.k):=(OL hs fun r h=>aD h).imp (fun h=>by omega)
 have h3:(Ci rs t c (-1000000000) 1000000000).Pairwise (fun a b=>a.k≠b.k):=((EO rs t c (-1000000000) 1000000000).pairwise_iff (fun h=>h.symm)).2 h2;exact (h1.and h3).imp (fun{a b} h=>by unfold ltV;obtain ⟨h4,h5⟩:=h;unfold leV at h4;omega)
theorem oK{l:List AP}{R:AP→AP→Prop}(h:l.Pairwise R){i j:Nat}{a b:AP}(hij:i<j)(ha:l[i]?=some a)(hb:l[j]?=some b):R a b:=by
 obtain ⟨hi,rfl⟩:=tH.1 ha;obtain ⟨hj,rfl⟩:=tH.1 hb;exact yM.1 h i j hi hj hij
theorem Vv{rs:List AP}(hs:BJ rs){t:Int}{c i j:Nat}{a b:AP}(hij:i≤j)(ha:(BC rs t c)[i]?=some a)(hb:(BC rs t c)[j]?=some b):DR a c≤DR b c:=by
 rcases Nat.eq_or_lt_of_le hij with rfl|h
 · rw [ha]at hb;injection hb with hb;rw [hb];exact zX _
 · have:=oK (QZ hs t c) h ha hb
   unfold ltV at this;omega
theorem ZX{rs:List AP}(hs:BJ rs)(t c:Nat)(lo:Int){i:Nat}{r:AP}(hr:(BC rs (t:Int) c)[i]?=some r):(CV (geV c lo) (BC rs (t:Int) c)≤i→lo≤DR r c)∧(i<CV (geV c lo) (BC rs (t:Int) c)→DR r c<lo):=by
 constructor
 · intro h
   have hlt:=(tH.1 hr).1;have hx:(BC rs (t:Int) c)[CV (geV c lo) (BC rs (t:Int) c)]?=some _:=tF (by omega)
   have h1:=of_decide_eq_true (OW hx);have h2:=Vv hs h hx hr
   omega
 · intro h
   have:=of_decide_eq_false (Qx h hr);omega
theorem aF{rs:List AP}(hs:BJ rs)(t c:Nat)(hi:Int){i:Nat}{r:AP}(hr:(BC rs (t:Int) c)[i]?=some r):(CV (gtV c hi) (BC rs (t:Int) c)≤i→hi<DR r c)∧(i<CV (gtV c hi) (BC rs (t:Int) c)→DR r c≤hi):=by
 constructor
 · intro h
   have hlt:=(tH.1 hr).1;have hx:(BC rs (t:Int) c)[CV (gtV c hi) (BC rs (t:Int) c)]?=some _:=tF (by omega)
   have h1:=of_decide_eq_true (OW hx);have h2:=Vv hs h hx hr
   omega
 · intro h
   have:=of_decide_eq_false (Qx h hr);omega
theorem Qw{rs:List AP}(hs:BJ rs)(t c:Nat)(lo hi:Int)(hlh:lo≤hi):CV (geV c lo) (BC rs (t:Int) c)≤CV (gtV c hi) (BC rs (t:Int) c):=by
 rcases uJ (CV (gtV c hi) (BC rs (t:Int) c)) (CV (geV c lo) (BC rs (t:Int) c))with h|h
 · have h9:=GQ (geV c lo) (BC rs (t:Int) c)
   have hx:(BC rs (t:Int) c)[CV (gtV c hi) (BC rs (t:Int) c)]?=some _:=tF (by omega);have h1:=(aF hs t c hi hx).1 (tQ _)
   have h2:=(ZX hs t c lo hx).2 h;omega
 · exact h
theorem Kc{l:List AP}{f m j:Nat}{r:AP}(h:((l.drop f).take m)[j]?=some r):j<m∧l[f+j]?=some r:=by
 rw [uX]at h;split at h
 · rw [uw]at h;exact ⟨by assumption,h⟩
 · cases h
theorem ZR{rs:List AP}{t:Int}{c:Nat}{r:AP}(h:r∈BC rs t c):r∈rs∧r.t=t:=by
 have:=vW.1 ((EO rs t c _ _).mem_iff.1 h);exact ⟨this.1,aD this.2⟩
theorem K4{rs:List AP}(hs:BJ rs)(t c:Nat)(lo hi:Int)(hlh:lo≤hi):Bi (BC rs (t:Int) c) c lo≤toT (BC rs (t:Int) c) c hi∧toT (BC rs (t:Int) c) c hi≤(BC rs (t:Int) c).length∧(0<(BC rs (t:Int) c).length→Bi (BC rs (t:Int) c) c lo<toT (BC rs (t:Int) c) c hi):=by
 have h1:=Qw hs t c lo hi hlh;have h2:=GQ (geV c lo) (BC rs (t:Int) c)
 have h3:=GQ (gtV c hi) (BC rs (t:Int) c);unfold Bi toT;omega
theorem Sq{rs:List AP}(hs:BJ rs)(t c:Nat)(lo hi:Int)(hlh:lo≤hi):(EM rs t c lo hi).rows.length=toT (BC rs (t:Int) c) c hi -Bi (BC rs (t:Int) c) c lo:=by
 have:=K4 hs t c lo hi hlh;show(((BC rs (t:Int) c).drop _).take _).length=_
 rw [tL,tN];omega
theorem KP{rs:List AP}(hs:BJ rs)(hn:rs.length≤2000)(hok:∀r∈rs,r.ok)(t c:Nat)(ht:t≤3)(hc:c≤3)(lo hi:Int)(hlh:lo≤hi):Fu (EM rs t c lo hi):=by
 have h1:=Qw hs t c lo hi hlh;have h2:=GQ (geV c lo) (BC rs (t:Int) c)
 have h3:=GQ (gtV c hi) (BC rs (t:Int) c);have h4:=K4 hs t c lo hi hlh
 have h5:=Sq hs t c lo hi hlh;have hll:=Ho hs (t:Int) c
 have hf:Bi (BC rs (t:Int) c) c lo=CV (geV c lo) (BC rs (t:Int) c) -1:=rfl;have hto:toT (BC rs (t:Int) c) c hi=min (CV (gtV c hi) (BC rs (t:Int) c)+1) (BC rs (t:Int) c).length:=rfl
 have hv:∀r:AP,Be r ((c:Nat):Int)=DR r c:=fun r=>ME r c hc;refine ⟨⟨⟨?_,?_⟩,?_,?_⟩,hlh,⟨?_,?_⟩,⟨?_,?_⟩,?_,?_,?_,?_,?_⟩
 · show(0:Int)≤(t:Int);omega
 · show(t:Int)<4;omega
 · show(0:Int)≤(c:Int);omega
 · show(c:Int)<4;omega
 · show(0:Int)≤((BC rs (t:Int) c).length:Int);omega
 · show((BC rs (t:Int) c).length:Int)≤2000;omega
 · show(0:Int)≤((Bi (BC rs (t:Int) c) c lo:Nat):Int);omega
 · show((Bi (BC rs (t:Int) c) c lo:Nat):Int)≤((BC rs (t:Int) c).length:Int);omega
 · rw [h5];show _≤((BC rs (t:Int) c).length:Int) -((Bi (BC rs (t:Int) c) c lo:Nat):Int);omega
 · rw [h5];intro h0;show((BC rs (t:Int) c).length:Int)=0;omega
 · intro j r hr
   obtain ⟨hj,hr2⟩:=Kc hr;have hm:=ZR (tV hr2)
   have hlo:=ZX hs t c lo hr2;have hhi:=aF hs t c hi hr2
   refine ⟨⟨hok r hm.1,hm.2,?_,?_⟩,?_⟩
   · intro h;change Be r (c:Int)<lo at h;rw [hv]at h;omega
   · intro h;change hi<Be r (c:Int)at h;rw [hv]at h;rw [h5];omega
   · intro hj0 q hq
     obtain ⟨_,hq2⟩:=Kc hq;have:=oK (QZ hs (t:Int) c) (by omega) hq2 hr2
     unfold RN;show Be q (c:Int)<Be r (c:Int)∨Be q (c:Int)=Be r (c:Int)∧q.k<r.k
     rw [hv,hv];exact this
 · intro r hr
   obtain ⟨_,hr2⟩:=Kc hr;have hlo:=ZX hs t c lo hr2
   show((Bi (BC rs (t:Int) c) c lo:Nat):Int)=0∨Be r (c:Int)<lo;rw [hv];omega
 · intro r hr
   rw [h5]at hr⊢;obtain ⟨hj,hr2⟩:=Kc hr;have hhi:=aF hs t c hi hr2
   show((Bi (BC rs (t:Int) c) c lo:Nat):Int)+_=((BC rs (t:Int) c).length:Int)∨hi<Be r (c:Int);rw [hv];omega
theorem SE{rs:List AP}(hs:BJ rs)(hn:rs.length≤2000)(hok:∀r∈rs,r.ok)(t c:Nat)(ht:t≤3)(hc:c≤3)(lo hi:Int)(hlh:lo≤hi):Nh (DZ rs) (EM rs t c lo hi):=by
 have h4:=K4 hs t c lo hi hlh;have h5:=Sq hs t c lo hi hlh
 refine ⟨KP hs hn hok t c ht hc lo hi hlh,Im rs,?_,rfl,Cq (Js (BC rs (t:Int) c)),Ei _,?_,?_,?_⟩
 · rw [h5];exact QK _ _ _
 · show(Mq rs)[4*(t:Int).toNat+(c:Int).toNat]?=some (L6 ((BC rs (t:Int) c).length:Int)++_)
   rw [vZ,vZ];unfold Mq;rw [uD,gF t (by omega) c (by omega)];rfl
 · intro h0
   change ((BC rs (t:Int) c).length:Int)=0 at h0;rw [uf (show(BC rs (t:Int) c).length=0 by omega)];rfl
 · intro _ k r pf hr hp
   obtain ⟨hk,hr2⟩:=Kc hr;change (Ir (BC rs (t:Int) c) (Bi (BC rs (t:Int) c) c lo) _)[k]?=some pf at hp;unfold Ir at hp;rw [uD,xQ hk]at hp;injection hp with hp
   subst hp;show RO _ ((BC rs (t:Int) c).length:Int).toNat (((Bi (BC rs (t:Int) c) c lo:Nat):Int).toNat+k) _ _=true
   rw [vZ,vZ,←EQ (BC rs (t:Int) c)];refine aX ?_;unfold Js;rw [uD,hr2];rfl
theorem XZ{rs:List AP}(hs:BJ rs)(hn:rs.length≤2000)(hok:∀r∈rs,r.ok)(t c:Nat)(ht:t≤3)(hc:c≤3)(lo hi:Int)(hlh:lo≤hi):ED (EM rs t c lo hi)=(BC rs (t:Int) c).filter (inR (t:Int) c lo hi):=by
 have hcm:=KP hs hn hok t c ht hc lo hi hlh;have h4:=K4 hs t c lo hi hlh
 have hf:Bi (BC rs (t:Int) c) c lo=CV (geV c lo) (BC rs (t:Int) c) -1:=rfl;have hto:toT (BC rs (t:Int) c) c hi=min (CV (gtV c hi) (BC rs (t:Int) c)+1) (BC rs (t:Int) c).length:=rfl
 have hv:∀r:AP,Be r ((c:Nat):Int)=DR r c:=fun r=>ME r c hc;rw [XY hcm];show(((BC rs (t:Int) c).drop (Bi (BC rs (t:Int) c) c lo)).take (toT (BC rs (t:Int) c) c hi -Bi (BC rs (t:Int) c) c lo)).filter _=_
 have e:BC rs (t:Int) c=(BC rs (t:Int) c).take (Bi (BC rs (t:Int) c) c lo)++(((BC rs (t:Int) c).drop (Bi (BC rs (t:Int) c) c lo)).take (toT (BC rs (t:Int) c) c hi -Bi (BC rs (t:Int) c) c lo)++(BC rs (t:Int) c).drop (toT (BC rs (t:Int) c) c hi)):=by
  have e1:(BC rs (t:Int) c).drop (toT (BC rs (t:Int) c) c hi)=((BC rs (t:Int) c).drop (Bi (BC rs (t:Int) c) c lo)).drop (toT (BC rs (t:Int) c) c hi -Bi (BC rs (t:Int) c) c lo):=by
   rw [yH];congr 1;omega
  rw [e1,uY,uY]
 conv=>rhs;rw [e]
 rw [um,um];have z1:((BC rs (t:Int) c).take (Bi (BC rs (t:Int) c) c lo)).filter (inR (t:Int) c lo hi)=[]:=by
  rw [List.filter_eq_nil_iff];intro r hr h9;obtain ⟨i,hi9⟩:=uV hr;rw [uX]at hi9;split at hi9
  · have:=(ZX hs t c lo hi9).2 (by omega)
    have:=of_decide_eq_true h9;omega
  · cases hi9
 have z2:((BC rs (t:Int) c).drop (toT (BC rs (t:Int) c) c hi)).filter (inR (t:Int) c lo hi)=[]:=by
  rw [List.filter_eq_nil_iff];intro r hr h9;obtain ⟨i,hi9⟩:=uV hr;rw [uw]at hi9;have hlt:=(tH.1 hi9).1
  have:=(aF hs t c hi hi9).1 (by omega);have:=of_decide_eq_true h9
  omega
 rw [z1,z2,vN,uR];refine yj ?_;intro r hr;have hm:=ZR (vC (vD hr))
 unfold inB inR;show decide (lo≤Be r (c:Int)∧Be r (c:Int)≤hi)=_
 rw [hv];exact decide_eq_decide.2 ⟨fun h=>⟨hm.2,h⟩,fun h=>h.2⟩
theorem kF{rs:List AP}(hs:BJ rs)(hok:∀r∈rs,r.ok)(t c:Nat)(ht:t≤3)(hc:c≤3)(lo hi:Int)(hlh:lo≤hi):(BC rs (t:Int) c).filter (inR (t:Int) c lo hi)=Ci rs (t:Int) c lo hi:=by
 refine Sj hs ?_ ?_
 · have h1:=(EO rs (t:Int) c (-1000000000) 1000000000).filter (inR (t:Int) c lo hi)
   refine h1.trans ?_;rw [List.filter_filter];refine List.Perm.of_eq (yj ?_);intro r hr;obtain ⟨⟨h1,h2,h3⟩,h4,h5⟩:=hok r hr;unfold inV at h1 h2 h3;have hb:-1000000000≤DR r c∧DR r c≤1000000000:=by
    unfold DR;split
    · omega
    · split
      · omega
      · split<;>omega
   unfold inR;rw [←Bool.decide_and];exact decide_eq_decide.2 ⟨fun h=>h.1,fun h=>⟨h,h.1,hb⟩⟩
 · exact (EY hs (t:Int) c (-1000000000) 1000000000).filter _
theorem Q7{rs:List AP}(hs:BJ rs)(hn:rs.length≤2000)(hok:∀r∈rs,r.ok)(t c:Nat)(ht:t≤3)(hc:c≤3)(lo hi:Int)(hlh:lo≤hi):ED (EM rs t c lo hi)=Ci rs (t:Int) c lo hi:=by rw [XZ hs hn hok t c ht hc lo hi hlh,kF hs hok t c ht hc lo hi hlh]
def C9(c:Int)(n:Nat):Nat:=((if c<0 then-(c+1)else c).tmod n).toNat
theorem Ez(c:Int)(n:Nat)(hn:0<n):C9 c n<n:=by
 unfold C9;have h1:0≤(if c<0 then-(c+1)else c):=by split<;>omega
 have h2:=Int.tmod_lt_of_pos (if c<0 then-(c+1)else c) (b:=(n:Int)) (by omega);have h3:=Int.tmod_nonneg (n:Int) h1
 omega
theorem NF(c:Int)(n:Nat):(if c<0 then-(c+1)else c).tmod n=(C9 c n:Int):=by
 unfold C9;have h1:0≤(if c<0 then-(c+1)else c):=by split<;>omega
 have h3:=Int.tmod_nonneg (n:Int) h1;omega
theorem mG{rs:List AP}{c:Chg}{x:AP}(h:x∈EI rs c):x∈rs∨(c.has=true∧x=⟨c.t,c.k,c.n⟩):=by
 unfold EI at h;rcases uF.1 h with h|h
 · rcases uF.1 h with h|h
   · exact .inl (vD h)
   · exact .inr (NM.1 h)
 · exact .inl (vC (vC h))
theorem nR{c:Chg}(h:c.ok)(hh:c.has=true):AP.ok ⟨c.t,c.k,c.n⟩:=by
 obtain ⟨_,h2,_⟩:=h;rw [JQ hh]at h2;exact uH.1 fun h9=>h2 (.inr ⟨hh,h9⟩)
theorem Sm:∀(cs:List Chg) (rs:List AP),(∀r∈rs,r.ok)→(∀c∈cs,c.ok)→∀r∈DD rs cs,r.ok
 |[],rs,h,_=>h
 |c::cs,rs,h,hc=>by
  have h1:∀r∈EI rs c,r.ok:=fun r hr=>by
   rcases mG hr with hr|⟨hh,rfl⟩
   · exact h r hr
   · exact nR (hc c (by simp)) hh
  exact Sm cs (EI rs c) h1 (fun c hc9=>hc c (by simp [hc9]))
theorem DW.rowsOk{l:List Br}(h:DW l):∀i,i≤l.length→∀r∈Bh (l.take i),r.ok
 |0,_=>by intro r hr;simp [Bh]at hr
 |i+1,hi=>by
  obtain ⟨r,hr⟩:∃r,l[i]?=some r:=⟨_,tF (by omega)⟩;rw [Bo hr,FI];refine Sm _ _ (DW.rowsOk h i (by omega)) fun c hc=>?_;obtain ⟨j,hj⟩:=uV hc;exact (h i r hr).1.ok.all j c hj
theorem gX{M:List AR}{p:Option Addr}{n cap:Nat}{xs:List (List Int)}(h:Ni M (.slice p n cap) xs)(k:Nat)(hk:k≤n):Ni M (.slice p k cap) (xs.take k):=by
 obtain ⟨p9,cap9,e,hl,hg⟩:=h;injection e with e1 e2 e3
 subst e1 e2 e3;have e4:(xs.take k).length=k:=by rw [tL];exact wB hk
 refine ⟨p,cap,by rw [e4],by omega,fun i z hz=>hg i z ?_⟩;rw [uX]at hz;split at hz
 · exact hz
 · cases hz
def cs0:List Chg:=[⟨0,3,false,V3.zero,true,⟨10,0,0⟩⟩,⟨0,5,false,V3.zero,true,⟨10,21,30⟩⟩]
def RP.cut(x:RP):RP:=⟨x.tb,x.cl,x.lo,x.hi,x.ct,x.fi,x.rows.drop 1,x.paths.drop 1,x.roots⟩
theorem oq{M:List AR}{v:Value}{x:RP}(hv:PP M v x)(h:Fu x){l:List AP}(hl:ED x=l):CO Tryz.prog 37 #[v] [M] (fun r H'=>∃vr sr,r= .tuple #[vr,.bool true]∧BX 5 113 vr l.length (Ac l) sr∧H'=[sr,M]):=by
 have h1:=bC hv;rw [decide_eq_true h,hl]at h1;exact h1
theorem PP.mono{M M':List AR}{v:Value}{x:RP}(h:PP M v x)(hm:∀c∈M,c∈M'):PP M' v x:=by
 obtain ⟨vr,vp,vt,e,h1,h2,h3⟩:=h;exact ⟨vr,vp,vt,e,h1.mono hm,h2.mono hm,h3.mono hm⟩
theorem QJ:∀(n:Nat) (l:List Bs) (i:Nat),l.length≤n→(Dy l i).length≤l.length
 |n,l,i,hn=>by
  rcases uJ l.length 2 with h|h
  · rw [LZ (by omega)];simp
  · have h1:=IY h
    have h2:=Hu l.length
    match n,hn with
    |0,hn=>omega
    |n+1,hn=>
    by_cases hi:i<Bq l.length
    · have ih:=QJ n (l.take (Bq l.length)) i (by rw [tL];omega)
      rw [tL]at ih;rw [JF h hi,tK];simp only [tT];omega
    · have ih:=QJ n (l.drop (Bq l.length)) (i -Bq l.length) (by rw [tN];omega)
      rw [tN]at ih;rw [IW h hi,tK];simp only [tT];omega
theorem Ol{rs:List AP}(hs:BJ rs)(hn:rs.length≤2000)(t c:Nat)(lo hi:Int):∀s∈(EM rs t c lo hi).roots,s.length≤140737488354000:=by
 intro s h;obtain ⟨x,_,rfl⟩:=uh.1 h;have:=VB hs hn x
 omega
theorem Om{rs:List AP}(hs:BJ rs)(hn:rs.length≤2000)(t c:Nat)(lo hi:Int):∀l∈(EM rs t c lo hi).paths,l.length≤1000000:=by
 intro l h;obtain ⟨x,_,rfl⟩:=uh.1 h;have h1:=QJ _ (Js (BC rs (t:Int) c)) (Bi (BC rs (t:Int) c) c lo+x) (tQ _)
 have h2:=Ho hs (t:Int) c;rw [EQ]at h1;omega
end Go.Proofs.YtkdgffcfmgmemaaGreatDoor
namespace Go.Proofs.YtkdgffcfmgmemaaGreatDoor
open Go.Proofs.Tryz
open Go Go.RowKit Gw
set_option maxRecDepth 100000
attribute [local irreducible] Gw.At Gw.Nx Gw.Ops
open Go.ChangeShapes Go.WideShapes Go.Deep
theorem nZ(ad:Addr):ad.add 0=ad:=by simp [Addr.add]
theorem XC{w:World}{a:Addr}{v:Value}(h:w.cell? a=some v):a=⟨a.block,a.off,none⟩:=by
 cases a with|mk b o s=>
 cases s with
 |none=>rfl
 |some s=>
  simp only [World.cell?]at h;split at h<;>simp at h
theorem Lj{w:World}{g i:Nat}{v:Value}(h:w.cell? ⟨g,i,none⟩=some v):∃cur T z,w.heap[g]?=some (.cells cur T z)∧cur[i]?=some v:=by
 unfold World.cell? at h;simp only at h;split at h
 · rename_i c T z hc
   exact ⟨c,T,z,hc,by simpa using h⟩
 · cases h
section
variable{H:Type}{enc:TypeId×Value→H}{P:Program}{w:World}{base:Nat}{held:Bool}
end
def Tx(w:World):List AR:=(List.range w.heap.size).filterMap fun b=>(w.heap[b]?).map fun o=>(b,o)
theorem TN{w:World}{b:Nat}{o:Obj}:(b,o)∈Tx w↔w.heap[b]?=some o:=by
 unfold Tx;rw [xI];constructor
 · rintro ⟨a,_,ha⟩
   obtain ⟨o',h1,h2⟩:=Option.map_eq_some_iff.1 ha;injection h2 with e1 e2
   subst e1 e2;exact h1
 · intro h
   refine ⟨b,?_,by rw [h];rfl⟩;rw [vO];rcases uJ b w.heap.size with h1|h1
   · exact h1
   · simp [uT h1]at h
theorem XH(w:World):((Tx w).map (·.1)).Nodup:=by
 have:∀l:List Nat,((l.filterMap fun b=>(w.heap[b]?).map fun o=>(b,o)).map (·.1)).Sublist l:=by
  intro l;induction l with
  |nil=>simp
  |cons a l ih=>
   rw [yO];cases h:w.heap[a]?with
   |none=>simp only [Option.map_none];exact ih.cons a
   |some o=>simp only [vV,uo];exact ih.cons_cons a
 exact List.Nodup.sublist (this _) zi
def Ki(w:World)(ks:List Nat):List AR:=(Tx w).filter fun c=>!ks.contains c.1
theorem NN{w:World}{ks:List Nat}{b:Nat}{o:Obj}(h:w.heap[b]?=some o)(hk:b∉ks):(b,o)∈Ki w ks:=by
 unfold Ki;rw [vW];exact ⟨TN.2 h,by simp [hk]⟩
theorem dO{P:Program}{f:FuncId}{args:Array Value}{v:Value}{w:World}(L:List AR)(hL:∀c∈L,w.heap[c.1]?=some c.2)(hn:(L.map (·.1)).Nodup){H:Hp}(hH:H.flatten=L++Ki w (L.map (·.1)))(h:Av P f args H v):
 Calls P f args w fun e w'=>e= .returned v∧Below w.heap.size w w':=by
 have hsat:Sat w (H++[]) w:=by
  refine ⟨rfl,rfl,rfl,?_,?_⟩
  · rw [uR,hH,uK,wD]
    refine ⟨hn,?_,?_⟩
    · exact List.Nodup.sublist (zO.map _) (XH w)
    · intro a ha b hb e
      subst e;obtain ⟨c,hc,rfl⟩:=uh.1 hb;unfold Ki at hc;have:=(vW.1 hc).2
      simp only [wE,List.contains_eq_mem,decide_eq_false_iff_not]at this;exact this ha
  · intro p hp
    rw [uR,hH,uF]at hp;rcases hp with hp|hp
    · exact hL p hp
    · exact TN.1 (vW.1 hp).1
 refine Calls.mono (h w [] w hsat) fun e w' he=>?_;rcases he with⟨v',H',rfl,⟨rfl,rfl⟩,hs⟩|⟨_,_,_,hf,_⟩
 · refine ⟨rfl,hs.os,hs.tape,hs.output,?_,?_⟩
   · rcases vJ w.heap.size with h0|h0
     · omega
     · have hlt:w.heap.size -1<w.heap.size:=by omega
       have hg:w.heap[w.heap.size -1]?=some w.heap[w.heap.size -1]:=tu hlt;have:w'.heap[w.heap.size -1]?=some w.heap[w.heap.size -1]:=by
        by_cases hk:(w.heap.size -1)∈L.map (·.1)
        · obtain ⟨c,hc,hk⟩:=uh.1 hk
          have h1:=hs.get c (by rw [uR,hH];exact u6 _ hc);have h2:=hL c hc
          rw [hk]at h1 h2;rw [h1,←h2,hg]
        · exact hs.get (_,_) (by rw [uR,hH];exact tZ _ (NN hg hk))
       rcases uJ (w.heap.size -1) w'.heap.size with h1|h1
       · omega
       · rw [uT h1]at this;cases this
   · intro k hk
     have hg:w.heap[k]?=some w.heap[k]:=tu hk;by_cases hm:k∈L.map (·.1)
     · obtain ⟨c,hc,rfl⟩:=uh.1 hm
       have h1:=hs.get c (by rw [uR,hH];exact u6 _ hc);rw [h1,hL c hc]
     · rw [hg]
       exact hs.get (_,_) (by rw [uR,hH];exact tZ _ (NN hg hm))
 · exact hf.elim
theorem fe{P:Program}{w:World}{n:String}{g:Nat}{cs:Array Value}(hg:P.globalNamed n=some g)(h:w.var? P n=some cs):∃T z,w.heap[g]?=some (.cells cs T z):=by
 unfold World.var? at h;rw [hg,uy]at h;split at h
 · rename_i c T z hc
   injection h with e
   subst e;exact ⟨T,z,hc⟩
 · cases h
theorem jl:Tryz.prog.globalNamed "cachetier/digest.round"=some 1:=by kernel_rfl
theorem oQ:(Tryz.prog.globals[1]?).map (·.type)=some 339:=by kernel_rfl
theorem c32:Tryz.prog.cellsOf 227=1:=by kernel_rfl
theorem sS:Tryz.prog.cellsOf 339=64:=by kernel_rfl
def iI:List Int:=Cs.map fun x=>(x.toNat:Int)
theorem Xc:(Rows.laid_cachetier_digest_round:DataW Unit)=Lib.tabData .u32 iI:=by kernel_rfl
theorem VQ:(iI.map fun z=>Value.int .u32 z).toArray=(Cs.map Bj).toArray:=by kernel_rfl
theorem j5{r:List (String×DataW Unit)}{W:World}(h:laidMet Tryz.prog (("cachetier/digest.round",Rows.laid_cachetier_digest_round)::r) W):
 ∃Tg zg,W.heap[1]?=some (.cells (Cs.map Bj).toArray Tg zg):=by
 rw [Xc]at h;have h2:=Lib.tabIs_of_head jl oQ underlying339 underlying227 c32 sS h
 unfold Lib.TabIs at h2;rw [VQ]at h2;obtain ⟨Tg,zg,hb⟩:=fe jl h2;exact ⟨Tg,zg,hb⟩
def oD:Value→Bool
 | .string _=>true
 | .slice _ _ _=>true
 | .bool _=>true
 | .int .i64 _=>true
 |_=>false
theorem WU{W:World}{Tg:TypeId}{zg:Nat×Nat}(h4:W.heap[1]?=some (.cells (Cs.map Bj).toArray Tg zg))
 {g i:Nat}{cur:Array Value}{T:TypeId}{z:Nat×Nat}(hb:W.heap[g]?=some (.cells cur T z)){y:Value}(hc:cur[i]?=some y)(ha:oD y=true):g∉ [1]:=by
 intro hm;simp only [uI,vT,or_false]at hm;subst hm;rw [h4]at hb;injection hb with e
 injection e with e1 _ _
 subst e1;rw [xX,uD]at hc;obtain ⟨u,_,rfl⟩:=Option.map_eq_some_iff.1 hc;simp [Bj,oD]at ha
theorem mi{f:FuncId}{args:Array Value}{v:Value}{W:World}{Tg:TypeId}{zg:Nat×Nat}(h4:W.heap[1]?=some (.cells (Cs.map Bj).toArray Tg zg))
 (h:Av Tryz.prog f args [[(1,.cells (Cs.map Bj).toArray Tg zg)],Ki W [1]] v):
 Calls Tryz.prog f args W fun e w'=>e= .returned v∧Below W.heap.size W w':=
 dO [(1,.cells (Cs.map Bj).toArray Tg zg)] (by
  intro c hc;simp only [uI,vT,or_false]at hc;subst hc;exact h4) (by simp) (by simp) h
theorem JL{α:Type}:∀(n:Nat) (p:Nat→α→Prop),(∀i,i<n→∃o,p i o)→∃os:List α,os.length=n∧∀i o,os[i]?=some o→p i o
 |0,_,_=>⟨[],rfl,fun i o h=>by cases h⟩
 |n+1,p,h=>by
  obtain ⟨os,h1,h2⟩:=JL n p (fun i hi=>h i (by omega));obtain ⟨o,ho⟩:=h n (by omega);refine ⟨os++[o],by simp [h1],fun i o' hi=>?_⟩;rw [zD]at hi;split at hi
  · exact h2 i o' hi
  · rename_i hlt
    have:i=n:=by
     have:=(tH.1 hi).1;simp at this;omega
    subst this;rw [h1,xU]at hi;simp only [vv,wZ]at hi;subst hi;exact ho
section
variable{H:Type}{enc:TypeId×Value→H}{P:Program}{W:World}{base:Nat}{held:Bool}
theorem Y3{t e:TypeId}{s fuel:Nat}{cs:List Value}{x:DataW H×List MemPlace}(ht:P.underlying t=some (.slice e))(hc:P.cellsOf e=s)(hs:0<s)(h:DataW.trod enc P W base (fun _=>true) held fuel t cs=some x):
 ∃p len cap,cs=[.slice p len cap]∧(len≤maxLen∧len≤cap)∧∀i,i<len→∃cs' n z,cs'.length=s∧DataW.trod enc P W base (fun _=>true) held n e cs'=some z∧
  ∃g o cur T zz,p=some ⟨g,o,none⟩∧W.heap[g]?=some (.cells cur T zz)∧∀j,j<s→cur[o+i*s+j]?=cs'[j]?:=by
 rcases open_slice ht h with⟨rfl,_⟩|⟨a,len,cap,m,n,D,Pl,rfl,_,hl,hm,hmm,_,hel⟩
 · exact ⟨none,0,0,rfl,⟨tX _,tQ _⟩,fun i hi=>by omega⟩
 · simp only [if_true]at hmm
   subst hmm;refine ⟨some a,len,m,rfl,⟨by omega,hl⟩,fun i hi=>?_⟩;have hsp2:a=⟨a.block,a.off,none⟩:=by
    obtain ⟨cs0,g1,_⟩:=hel 0 (by omega);rw [hc]at g1;obtain ⟨_,glen,gg⟩:=World.cells?_some g1;have g9:=gg 0 hs
    rw [tF (l:=cs0) (i:=0) (by omega),yA,nZ,nZ]at g9;exact XC g9
   obtain ⟨cs',h1,h2⟩:=hel i (by omega);rw [hc]at h1;obtain ⟨_,hlen,hg⟩:=World.cells?_some h1;refine ⟨cs',n,_,hlen,h2,?_⟩;have h9:=hg 0 hs
   rw [tF (l:=cs') (i:=0) (by omega),hsp2,CJ,CJ]at h9;obtain ⟨cur,T,zz,hb,_⟩:=Lj h9;refine ⟨a.block,a.off,cur,T,zz,by rw [←hsp2],hb,fun j hj=>?_⟩;have h8:=hg j hj
   rw [tF (l:=cs') (i:=j) (by omega)]at h8⊢;rw [hsp2,CJ,CJ]at h8;obtain ⟨cur2,T2,zz2,hb2,hc2⟩:=Lj h8;rw [hb]at hb2;injection hb2 with e
   injection e with e1 _ _
   rw [e1];exact hc2
end
theorem pu:Tryz.prog.cellsOf 3=1:=by kernel_rfl
theorem sU:Tryz.prog.cellsOf 217=6:=by kernel_rfl
theorem Vw{H:Type}{enc:TypeId×Value→H}{W:World}{base:Nat}{held:Bool}{Tg:TypeId}{zg:Nat×Nat}(h4:W.heap[1]?=some (.cells (Cs.map Bj).toArray Tg zg)){fuel:Nat}{cs:List Value}{x:DataW H×List MemPlace}(h:DataW.trod enc Tryz.prog W base (fun _=>true) held fuel 22 cs=some x):
 ∃v xs,cs=[v]∧Ni (Ki W [1]) v xs:=by
 obtain ⟨p,len,cap,rfl,hl,hel⟩:=Y3 underlying22 sU (by decide) h;obtain ⟨xs,h1,h2⟩:=JL len (fun i (z:List Int)=>z.length=6∧(∀n∈z,-9223372036854775808≤n∧n≤9223372036854775807)∧∃g o cur T zz,p=some ⟨g,o,none⟩∧(g,Obj.cells cur T zz)∈Ki W [1]∧∀(j:Nat) (n:Int),z[j]?=some n→cur[o+i*6+j]?=some (I4 n)) (fun i hi=>by
  obtain ⟨cs',n,z,hlen,ht,g,o,cur,T,zz,hp,hb,hc⟩:=hel i hi;obtain ⟨ys,m,_,_,_,hyl,hf⟩:=DataW.trod_array underlying217 ht;obtain ⟨ns,hn1,hn2⟩:=JL 6 (fun j (n:Int)=>(-9223372036854775808≤n∧n≤9223372036854775807)∧cs'[j]?=some (I4 n)) (fun j hj=>by
   have f:=hf j hj;rw [pu,wP,tF (by omega)]at f;have hj2:j<cs'.length:=by omega
   have e:(cs'.drop j).take 1=[cs'[j]]:=by rw [vB hj2];rfl
   rw [e]at f;obtain ⟨k,hk,_,hkw⟩:=DataW.trod_int underlying3 f;injection hk with hk _
   exact ⟨k,bounds_i64 hkw,by rw [tF hj2,hk]⟩)
  have hat:∀(j:Nat) (n:Int),ns[j]?=some n→cur[o+i*6+j]?=some (I4 n):=fun j n hj=>by
   have hlt:=(tH.1 hj).1;rw [hc j (by omega)];exact (hn2 j n hj).2
  obtain ⟨n0,hn0⟩:∃n,ns[0]?=some n:=⟨_,tF (by omega)⟩;exact ⟨ns,hn1,fun n hmem=>by
   obtain ⟨j,hj⟩:=uV hmem;exact (hn2 j n hj).1,g,o,cur,T,zz,hp,NN hb (WU h4 hb (hat 0 n0 hn0) rfl),hat⟩)
 subst h1;exact ⟨_,xs,rfl,p,cap,rfl,hl,h2⟩
end Go.Proofs.YtkdgffcfmgmemaaGreatDoor
