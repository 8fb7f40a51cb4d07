/- The helpers of the laws of chapter 11. -/
/- log, positions, built. -/
/- What is built on a log, in plain words; the example of chapter 11. -/
/- The example of chapter 11; sane. -/
import Derived.Test.YtkdgffcfmgmemaaGreatDoorEz
import Derived.Test.YtkdgffcfmgmemaaGreatDoorEx31
import Derived.Test.YtkdgffcfmgmemaaGreatDoorPy7
import Derived.Test.YtkdgffcfmgmemaaGreatDoorPy8
import Derived.Test.YtkdgffcfmgmemaaGreatDoorPf2
set_option linter.unusedVariables false
set_option linter.unusedSimpArgs false
namespace Go.Proofs.YtkdgffcfmgmemaaGreatDoor
open Go.Proofs.Tryz
open Go Go.RowKit Gw
set_option maxRecDepth 100000
attribute [local irreducible] Gw.At Gw.Nx Gw.Ops
theorem H7{z:Int}(k:Int)(hk:1≤k)(h1:-9223372036854775808≤z)(h2:z≤9223372036854775807):-9223372036854775808≤z.tdiv k∧z.tdiv k≤9223372036854775807:=by
 have h:=Int.natAbs_tdiv_le_natAbs z k;rcases Int.lt_or_le z 0 with hz|hz
 · have:z.tdiv k≤0:=by
    obtain ⟨y,rfl⟩:∃y,z=-y:=⟨-z,by omega⟩;rw [Int.neg_tdiv];have:=Int.tdiv_nonneg (a:=y) (b:=k) (by omega) (by omega)
    omega
   omega
 · have:=Int.tdiv_nonneg hz (show(0:Int)≤k by omega)
   omega
theorem LJ{kd tb cl lo hi bq ot:Int}(h:(0≤tb∧tb≤3)∧(0≤cl∧cl≤3)∧(-1000000000≤lo∧lo≤hi∧hi≤1000000000)∧
 ((kd=1∧cl=0∧lo=hi∧(1≤lo∧lo≤1000000)∧bq=0∧ot=0)∨((kd=2∨kd=3)∧bq=0∧ot=0)∨
  ((kd=4∨kd=5∨kd=6)∧(1≤bq∧bq≤3)∧ot=0)∨(kd=7∧(1≤bq∧bq≤3)∧(0≤ot∧ot≤3)))):BN ⟨kd,tb,cl,lo,hi,bq,ot⟩:=h
theorem kK{g o c sz a:Nat}(h:a<c):EU (some ⟨g,o,none⟩) a c sz=some ⟨g,o+a*sz,none⟩:=by
 unfold EU;rw [if_neg (by omega),vL,CW]
theorem Mw{M:List AR}{p:Option Addr}{cap a b:Nat}{l:List Bp}(h:Dv M (.slice p l.length cap) l)(hab:a≤b)(hb:b≤l.length):Dv M (.slice (EU p a cap 2) (b -a) (cap -a)) ((l.drop a).take (b -a)):=by
 obtain ⟨p',cap',e,⟨hl,hlc⟩,hg⟩:=h;injection e with e1 e2 e3
 subst e1 e3;have e4:((l.drop a).take (b -a)).length=b -a:=by rw [sW,sZ];omega
 refine ⟨_,_,by rw [e4],⟨by omega,by omega⟩,fun i x hx=>?_⟩;rw [uQ]at hx;split at hx
 · rw [uf]at hx
   obtain ⟨h1,g,off,cur,T,zz,rfl,hm,hsz,hex⟩:=hg (a+i) x hx;rw [kK (by omega)];exact ⟨h1,g,_,cur,T,zz,rfl,hm,by omega,by rw [show off+a*2+i*2=off+(a+i)*2 by omega];exact hex⟩
 · cases hx
theorem iI(rs:List AQ)(c:Chg):(EH rs c).length≤rs.length+1:=by
 unfold EH MI;simp only [sV,sW,sZ];split<;>simp only [tC,ut]<;>omega
theorem QF:∀(cs:List Chg) (rs:List AQ),(DD rs cs).length≤rs.length+cs.length
 |[],_=>su _
 |c::cs,rs=>by
  have h1:=QF cs (EH rs c);have h2:=iI rs c
  rw [tJ];exact xS h1 (by omega)
theorem DU.few{l:List Bp}(h:DU l):∀i,i≤l.length→(Bh (l.take i)).length≤3*i
 |0,_=>by rw [uY];exact su _
 |i+1,hi=>by
  obtain ⟨r,hr⟩:∃r,l[i]?=some r:=⟨_,sQ (by omega)⟩;rw [Bo hr,FI];have h1:=QF r.cs (Bh (l.take i))
  have h2:=DU.few h i (by omega);have h3:=(h i r hr).2
  omega
theorem rP{M:List AR}{q:Option Addr}{cap:Nat}{l:List Bp}(hRI:Dv M (.slice q l.length cap) l)(hlog:DU l)(hl:l.length≤1000000)(k:Nat)(hk:k≤l.length):CK Tryz.prog 13 #[.slice q l.length cap,I4 (k:Int)] [M] (fun r H'=>∃v s,r= .tuple #[v,I4 0]∧PN v (k:Int) (Bh (l.take k)) s∧H'=[s,M]):=by
 refine ET (qI q cap l M hRI hlog hl k hk) rfl ?_;rintro r H' ⟨sp,mm,es,ck,lm,rfl,hm,hR,rfl⟩;obtain ⟨hs,hn⟩:=hlog.rows k hk;exact ⟨_,⟨_,_,rfl,⟨sp,mm,es,ck,lm,rfl,hm,hR,hs,hn,rfl⟩,rfl⟩,by simp⟩
theorem NV{E M:List AR}(q:QM)(te base:Int)(hb:-1000000000000≤base∧base≤1000000000000){pg:Option Addr}{cg:Nat}{L:List RP}(hL:Gq (E++M) (.slice pg L.length cg) L)(hLl:L.length≤1000000){r:CO}(hr:Fh q L=some r){lv:Value}{l:List Bp}(hl:Dv (E++M) lv l)(hcs:∀x∈l,x.cs.length≤1000):CK Tryz.prog 18 #[.agg #[I4 q.kd,I4 q.tb,I4 q.cl,I4 q.lo,I4 q.hi,I4 q.bq,I4 q.ot,I4 te,I4 base,.slice pg L.length cg],lv] [E,M] (fun w H'=>∃(z:KU) (s:List AR) (b:Bool),((b=true∧Ew q base L l=some z.a∧z.ok (s++E++M))∨(b=false∧Ew q base L l=none))∧w= .tuple #[.agg #[I4 z.a.q.kd,I4 z.a.q.tb,I4 z.a.q.cl,I4 z.a.q.lo,I4 z.a.q.hi,I4 z.a.q.bq,I4 z.a.q.ot,.slice z.rp z.a.res.rows.length z.rc,I4 z.a.res.val,.bool z.a.res.fnd,I4 z.a.since,I4 z.a.until_,I4 z.a.base,.slice z.gp z.a.ranges.length z.gc,.slice z.cp z.a.recs.length z.cc],.bool b]∧H'=[s,E,M]):=by
 refine ET (aM q te base hb hL hLl hr hl hcs) (by simp) ?_;rintro w H' ⟨z,s,b,h1,rfl,rfl⟩;exact ⟨_,⟨z,s,b,by simpa only [si]using h1,rfl,rfl⟩,by simp⟩
theorem NU{E M:List AR}(base until_:Cq){z:KU}(hz:z.ok (E++M))(hs:∀x∈z.a.ranges,x.small)(hrl:z.a.ranges.length≤1000000)(hb:-1000000000000≤z.a.base∧z.a.base≤1000000000000)(hcs:∀x∈z.a.recs,x.cs.length≤1000){r:CO}(hr:Fh z.a.q z.a.ranges=some r)(Tg:TypeId)(zg:Nat×Nat):Au Tryz.prog 26 #[.agg #[I4 base.p,.string (str base.ch),.string (str base.st)],.agg #[I4 until_.p,.string (str until_.ch),.string (str until_.st)],.agg #[I4 z.a.q.kd,I4 z.a.q.tb,I4 z.a.q.cl,I4 z.a.q.lo,I4 z.a.q.hi,I4 z.a.q.bq,I4 z.a.q.ot,.slice z.rp z.a.res.rows.length z.rc,I4 z.a.res.val,.bool z.a.res.fnd,I4 z.a.since,I4 z.a.until_,I4 z.a.base,.slice z.gp z.a.ranges.length z.gc,.slice z.cp z.a.recs.length z.cc]] [[(1,.cells (Cv.map Bn).toArray Tg zg)],E,M] (.bool (decide (IG base until_ z.a))):=by
 refine ET (nM base until_ hz hs hrl hb hcs hr Tg zg) (by simp) ?_;rintro r H' ⟨rfl,rfl⟩;exact ⟨_,⟨rfl,rfl⟩,by simp⟩
def Et(l:List Bp)(a b:Nat):List Bp:=(l.drop a).take (b -a)
theorem O3{l:List Bp}{a b:Nat}(hb:b≤l.length):(Et l a b).length=b -a:=by unfold Et;rw [sW,sZ];omega
theorem Vm{l:List Bp}{a b k:Nat}{x:Bp}(h:(Et l a b)[k]?=some x):l[a+k]?=some x∧k<b -a:=by
 unfold Et at h;rw [uQ]at h;split at h
 · rename_i h9;rw [uf]at h;exact ⟨h,h9⟩
 · cases h
theorem Kl{l:List Bp}(h:DU l)(a b:Nat):∀x∈Et l a b,x.cs.length≤1000:=fun x hx=>by
 obtain ⟨k,hk⟩:=uM hx;have:=(h _ x (Vm hk).1).2
 omega
theorem Fa{l:List Bp}(h:DU l)(hl:l.length≤20){k:Nat}(hk:k≤l.length)(q:QM):(Ca (Bh (l.take k)) q).length≤100:=by
 have h1:=h.few k hk;have h2:=(@QC (Bh (l.take k)) q.tb q.cl.toNat q.lo q.hi).1
 unfold Ca;omega
theorem Lb(rs:List AQ)(q:QM):(Ee rs q).length≤1+(Ca rs q).length:=by
 unfold Ee;split
 · rw [tJ,sU];omega
 · simp
noncomputable def Dp(l:List Bp)(a b:Nat)(q:QM):Option Mc:=Ew q (a:Int) (Ee (Bh (l.take a)) q) (Et l a b)
theorem iM(c:Int)(n:Nat)(hn:0<n)(hn2:n≤1000000)(h1:-9223372036854775808≤c)(h2:c≤9223372036854775807):Au Tryz.prog 32 #[I4 c,I4 (n:Int)] [] (I4 (C9 c n:Int)):=by
 refine Se func32 ntmps32 [0,1] ?_;intro u R;refine Zq<|Zg<|Za Y<|Z0<|Zx<|Zq<|Zq<|Zg<|Zm Y<|Zv (EO Y Y)<|Z0<|Zx ?_;refine Ao Y (fun hc1=>?_) (fun hc1=>?_)
 ·
  refine Zg<|Zm Y<|Yi Y Y ?_
  (refine BM (TE Y (IntWalk.i64_in _ ?_)) ?_;(focus (omega)))
  refine Za Y<|Z0<|Zx<|Zq<|Zg<|Zm Y<|Zm Y ?_
  (refine BM (TC Y Y ?_ rfl) ?_;(focus (omega)))
  refine Za Y<|Z0<|Zx<|A9 ?_;refine AC rfl results32 Y (by exact ⟨by rw [←NA];simp [*],rfl⟩)
 refine AB<|Zx<|Zq<|Zg<|Zm Y<|Zm Y ?_
 (refine BM (TC Y Y ?_ rfl) ?_;(focus (omega)))
 refine Za Y<|Z0<|Zx<|A9 ?_;refine AC rfl results32 Y (by exact ⟨by rw [←NA];simp [*],rfl⟩)
theorem KX(c:Int)(n:Nat)(hn:0<n)(hn2:n≤1000000)(h1:-9223372036854775808≤c)(h2:c≤9223372036854775807):Au Tryz.prog 106 #[I4 c,I4 (n:Int)] [] (I4 (C9 c n:Int)):=by
 refine Se func106 ntmps106 [0,1] ?_;intro u R;refine Zq<|Zg<|Za Y<|Z0<|Zx<|Zq<|Zq<|Zg<|Zm Y<|Zv (EO Y Y)<|Z0<|Zx ?_;refine Ao Y (fun hc1=>?_) (fun hc1=>?_)
 ·
  refine Zg<|Zm Y<|Yi Y Y ?_
  (refine BM (TE Y (IntWalk.i64_in _ ?_)) ?_;(focus (omega)))
  refine Za Y<|Z0<|Zx<|Zq<|Zg<|Zm Y<|Zm Y ?_
  (refine BM (TC Y Y ?_ rfl) ?_;(focus (omega)))
  refine Za Y<|Z0<|Zx<|A9 ?_;refine AC rfl results106 Y (by exact ⟨by rw [←NA];simp [*],rfl⟩)
 refine AB<|Zx<|Zq<|Zg<|Zm Y<|Zm Y ?_
 (refine BM (TC Y Y ?_ rfl) ?_;(focus (omega)))
 refine Za Y<|Z0<|Zx<|A9 ?_;refine AC rfl results106 Y (by exact ⟨by rw [←NA];simp [*],rfl⟩)
set_option maxHeartbeats 1000000 in
theorem og(q0 q1 q2 q3 q4:Int)(hq01:-9223372036854775808≤q0)(hq02:q0≤9223372036854775807)(hq11:-9223372036854775808≤q1)(hq12:q1≤9223372036854775807)(hq21:-9223372036854775808≤q2)(hq22:q2≤9223372036854775807)(hq31:-9223372036854775808≤q3)(hq32:q3≤9223372036854775807)(hq41:-9223372036854775808≤q4)(hq42:q4≤9223372036854775807):CK Tryz.prog 45 #[.agg #[I4 q0,I4 q1,I4 q2,I4 q3,I4 q4]] [] (fun r H'=>∃q:QM,BN q∧r= .agg #[I4 q.kd,I4 q.tb,I4 q.cl,I4 q.lo,I4 q.hi,I4 q.bq,I4 q.ot]∧H'=[]):=by
 have htq07:=H7 7 (by decide) hq01 hq02;have hpq07:=FK (q0.tdiv 7) 3 (by decide)
 have htq19:=H7 9 (by decide) hq11 hq12;have hpq19:=FK (q1.tdiv 9) 4 (by decide)
 have htq43:=H7 3 (by decide) hq41 hq42;have hpq43:=FK (q4.tdiv 3) 3 (by decide)
 have htq49:=H7 9 (by decide) hq41 hq42;have hpq49:=FK (q4.tdiv 9) 3 (by decide)
 have hpq0:=FK q0 7 (by decide);have hpq1:=FK q1 9 (by decide)
 have hpq2:=FK q2 14 (by decide);have hpq3:=FK q3 14 (by decide)
 have hpq4:=FK q4 3 (by decide);refine Se func45 ntmps45 [0] ?_;intro u R;refine Zq<|Zg<|Ze (Bx #[_,_,_,_,_]) ?_;rintro _ _ ⟨bx,rfl,rfl⟩;refine Ze (Al zeroValue30 #[_,_,_,_,_,_,_]) ?_;rintro _ _ ⟨br,rfl,rfl⟩;refine Z0<|Zx<|Zb [1,2] ?_;refine CV (e0:=[]) (H0:=[]) (fun e H=>∃(bq:Nat),(True)∧e=[(3,I5 bq)]∧H=[[(bq,.cells #[I4 ((1+C9 q0 7:Nat):Int),I4 (C9 (q0.tdiv 7) 3:Int),I4 0,I4 0,I4 0,I4 0,I4 0] 30 (0,0))]]) Wp ?hx_1 ?hy_1
 case hx_1=>
  refine BK (n:=11) (0::1::3::7::0::16::48::119::255::0::1023::[]) 1668 (by kernel_rfl) (by kernel_rfl) rfl ?_;refine Zi 1 0 rfl (BG (j:=0) underlying23 sizeOf3 Y Y (by first|omega|decide|(simp;done))) ?_;refine Zj 3 1 rfl isAgg3 Y ?_;refine Zi 19 4 rfl (BG (j:=0) underlying23 sizeOf3 Y Y (by first|omega|decide|(simp;done))) ?_;refine Zj 51 5 rfl isAgg3 Y ?_;refine Zi 115 6 rfl (TD (m:=q0) (n:=7) Y Y (by decide) (IntWalk.i64_in _ (by have:=H7 7 (by decide) hq01 hq02;omega))) ?_;refine Zz (l:=[2,9]) ?_;refine Zy 3 119 [5,1] [true,false] [(5,(_,_))] rfl Y rfl rfl rfl rfl (Zu [_,_] Y call106 Y rfl (KX q0 7 (by decide) (by decide) hq01 hq02)) ?hk_2 (fun _ _ h=>h.elim) ?hl_2
  case hk_2=>
   rintro _ _ ⟨rfl,rfl⟩;refine ⟨Zk (Ad),?_⟩;refine Zi 127 3 rfl (D6 (m:=1) Y Y (by omega)) ?_;refine Zz (l:=[7,9]) ?_;refine Zy 119 255 [5] [false] [] rfl Y rfl rfl rfl rfl (Zu [_,_] Y call106 Y rfl (KX (q0.tdiv 7) 3 (by decide) (by decide) htq07.1 htq07.2)) ?hk_3 (fun _ _ h=>h.elim) ?hl_3
   case hk_3=>
    rintro _ _ ⟨rfl,rfl⟩;refine ⟨Ad,?_⟩;refine Zi 511 8 rfl (BJ (vs:=[(0,I4 ((1+C9 q0 7:Nat):Int)),(1,I4 (C9 (q0.tdiv 7) 3:Int))]) (cs:=#[I4 ((1+C9 q0 7:Nat):Int),I4 (C9 (q0.tdiv 7) 3:Int),I4 0,I4 0,I4 0,I4 0,I4 0]) Y (AZ (pl:=#[(0,1),(1,1),(2,1),(3,1),(4,1),(5,1),(6,1)]) zeroValue30 underlying30 (fun _=>by kernel_rfl) (by kernel_rfl))) ?_;refine Yw 9 1023 rfl (Al zeroValue30 #[_,_,_,_,_,_,_]) ?_;rintro _ _ ⟨bq,rfl,rfl⟩;refine Yw 10 2047 rfl (Xw sizeOf30 #[I4 ((1+C9 q0 7:Nat):Int),I4 (C9 (q0.tdiv 7) 3:Int),I4 0,I4 0,I4 0,I4 0,I4 0]) ?_;rintro _ _ ⟨rfl,rfl⟩;refine Am ?_;refine Zn [3,1,2] ?_;refine BA (e':=[(3,_)]) (by exact ⟨bq,trivial,rfl,rfl⟩)
   refine Zy 0 639 [5] [true] [(5,(_,_))] rfl Y rfl rfl rfl rfl (Al zeroValue30 #[_,_,_,_,_,_,_]) ?hk_7 (fun _ _ h=>h.elim) ?hl_7
   case hk_7=>
    rintro _ _ ⟨bq,rfl,rfl⟩;refine ⟨Zk (Ad),?_⟩;refine Yw 7 767 rfl (Zu [_,_] Y call106 Y rfl (KX (q0.tdiv 7) 3 (by decide) (by decide) htq07.1 htq07.2)) ?_;rintro _ _ ⟨rfl,rfl⟩;refine Zi 1023 8 rfl (BJ (vs:=[(0,I4 ((1+C9 q0 7:Nat):Int)),(1,I4 (C9 (q0.tdiv 7) 3:Int))]) (cs:=#[I4 ((1+C9 q0 7:Nat):Int),I4 (C9 (q0.tdiv 7) 3:Int),I4 0,I4 0,I4 0,I4 0,I4 0]) Y (AZ (pl:=#[(0,1),(1,1),(2,1),(3,1),(4,1),(5,1),(6,1)]) zeroValue30 underlying30 (fun _=>by kernel_rfl) (by kernel_rfl))) ?_;refine Yw 10 2047 rfl (Xw sizeOf30 #[I4 ((1+C9 q0 7:Nat):Int),I4 (C9 (q0.tdiv 7) 3:Int),I4 0,I4 0,I4 0,I4 0,I4 0]) ?_;rintro _ _ ⟨rfl,rfl⟩;refine Am ?_;refine Zn [3,1,2] ?_;refine BA (e':=[(3,_)]) (by exact ⟨bq,trivial,rfl,rfl⟩)
   exact Av
  refine Zy 0 627 [5,1] [true,true] [(5,(_,_)),(1,(_,_))] rfl Y rfl rfl rfl rfl (Al zeroValue30 #[_,_,_,_,_,_,_]) ?hk_11 (fun _ _ h=>h.elim) ?hl_11
  case hk_11=>
   rintro _ _ ⟨bq,rfl,rfl⟩;refine ⟨Zk (Zk (Ad)),?_⟩;refine Yz 2 3 631 [5,1] [true,false] [(5,(_,_))] rfl Y rfl rfl rfl rfl (Zu [_,_] Y call106 Y rfl (KX q0 7 (by decide) (by decide) hq01 hq02)) ?_;rintro _ _ ⟨rfl,rfl⟩;refine ⟨Zk (Ad),?_⟩;refine Zi 639 3 rfl (D6 (m:=1) Y Y (by omega)) ?_;refine Yw 7 767 rfl (Zu [_,_] Y call106 Y rfl (KX (q0.tdiv 7) 3 (by decide) (by decide) htq07.1 htq07.2)) ?_;rintro _ _ ⟨rfl,rfl⟩;refine Zi 1023 8 rfl (BJ (vs:=[(0,I4 ((1+C9 q0 7:Nat):Int)),(1,I4 (C9 (q0.tdiv 7) 3:Int))]) (cs:=#[I4 ((1+C9 q0 7:Nat):Int),I4 (C9 (q0.tdiv 7) 3:Int),I4 0,I4 0,I4 0,I4 0,I4 0]) Y (AZ (pl:=#[(0,1),(1,1),(2,1),(3,1),(4,1),(5,1),(6,1)]) zeroValue30 underlying30 (fun _=>by kernel_rfl) (by kernel_rfl))) ?_;refine Yw 10 2047 rfl (Xw sizeOf30 #[I4 ((1+C9 q0 7:Nat):Int),I4 (C9 (q0.tdiv 7) 3:Int),I4 0,I4 0,I4 0,I4 0,I4 0]) ?_;rintro _ _ ⟨rfl,rfl⟩;refine Am ?_;refine Zn [3,1,2] ?_;refine BA (e':=[(3,_)]) (by exact ⟨bq,trivial,rfl,rfl⟩)
  exact Av
 rintro _ _ ⟨bq,_,rfl,rfl⟩;refine Zq<|Zq<|Zg<|Zh 0 underlying30 rfl rfl sizeOf3 Y<|Zl isAgg3 Y ?_;refine Zv (C8 (n:=1) Y Y)<|Z0<|Zx ?_;refine Ao Y (fun k1=>?_) (fun k1=>?_)
 ·
  refine Zq<|Zg ?_;refine BM (BG (j:=1) underlying23 sizeOf3 Y Y (by first|omega|decide|(simp;done))) ?_;refine Zl isAgg3 Y ?_;refine Xr [_,_] Y call106 Y rfl (KX q1 9 (by decide) (by decide) hq11 hq12) ?_;refine Ya (m:=1) Y Y<|Zh 3 underlying30 rfl rfl sizeOf3 Y<|Xe (Zs sizeOf3 Y Y rfl (hi:=by first|omega|decide|(simp;done))) ?_;refine Z0<|Zx<|Zq<|Zg<|Zh 3 underlying30 rfl rfl sizeOf3 Y<|Zl isAgg3 Y ?_;refine Zh 4 underlying30 rfl rfl sizeOf3 Y<|Xe (Zs sizeOf3 Y Y rfl (hi:=by first|omega|decide|(simp;done))) ?_;refine Z0<|Zn [2,3] ?_;refine Zx<|Zq<|Zg<|Zo Wh (Ab (cs:=#[_,_,_,_,_,_,_]) isAgg30 sizeOf30 Y Wb (by exact BB rfl)) ?_;refine Xe (BO sizeOf30 Y Y (by(simp [Value.oneCell'];done)) Wu (by exact DT rfl) (by first|rfl|(simp;done)) Wb (by exact BQ _)) ?_;refine Z0<|Zx<|A9<|Zt ?_;refine D7 rfl results45 Y Wh (Ai isAgg30 sizeOf30 Wn (BB rfl)) (by exact ⟨⟨((1+C9 q0 7:Nat):Int),(C9 (q0.tdiv 7) 3:Int),0,((1+C9 q1 9:Nat):Int),((1+C9 q1 9:Nat):Int),0,0⟩,LJ (by omega),rfl,rfl⟩)
 refine AB<|Zx<|Zq<|Zg ?_;refine BM (BG (j:=1) underlying23 sizeOf3 Y Y (by first|omega|decide|(simp;done))) ?_;refine Zl isAgg3 Y ?_;refine Zv (TD (m:=q1) (n:=9) Y Y (by decide) (IntWalk.i64_in _ (by have:=H7 9 (by decide) hq11 hq12;omega))) ?_;refine Xr [_,_] Y call106 Y rfl (KX (q1.tdiv 9) 4 (by decide) (by decide) htq19.1 htq19.2) ?_;refine Zh 2 underlying30 rfl rfl sizeOf3 Y<|Xe (Zs sizeOf3 Y Y rfl (hi:=by first|omega|decide|(simp;done))) ?_;refine Z0<|Zx<|Zq<|Zg ?_;refine BM (BG (j:=2) underlying23 sizeOf3 Y Y (by first|omega|decide|(simp;done))) ?_;refine Zl isAgg3 Y ?_;refine Xr [_,_] Y call106 Y rfl (KX q2 14 (by decide) (by decide) hq21 hq22) ?_
 (refine BM (G9 Y Y (IntWalk.i64_in _ ?_)) ?_;(focus (omega)))
 refine Zh 3 underlying30 rfl rfl sizeOf3 Y<|Xe (Zs sizeOf3 Y Y rfl (hi:=by first|omega|decide|(simp;done))) ?_;refine Z0<|Zn [1,2,3] ?_;refine Zx<|Zq<|BK (n:=8) (0::1::0::4::12::31::63::127::[]) 144 (by kernel_rfl) (by kernel_rfl) rfl ?_;refine Zi 1 0 rfl (Aa (off:=3) underlying30 rfl rfl sizeOf3 Y)<|Zj 3 1 rfl isAgg3 Y ?_;refine Zi 7 2 rfl (BG (j:=3) underlying23 sizeOf3 Y Y (by first|omega|decide|(simp;done))) ?_;refine Zj 15 3 rfl isAgg3 Y ?_;refine Yz 4 12 31 [3,1] [false,true] [(1,(_,_))] rfl Y rfl rfl rfl rfl (Zu [_,_] Y call106 Y rfl (KX q3 14 (by decide) (by decide) hq31 hq32)) ?_;rintro _ _ ⟨rfl,rfl⟩;refine ⟨Zk (Ad),?_⟩
 (refine EF (D':=63) 5 (JI Y Y (IntWalk.i64_in _ ?_)) ?_;(focus (omega)))
 refine Zi 127 6 rfl (Aa (off:=4) underlying30 rfl rfl sizeOf3 Y)<|Zz (l:=[7]) ?_;refine Zy 127 255 [1] [false] [] rfl Y rfl rfl rfl rfl (Zs sizeOf3 Y Y rfl (hi:=by first|omega|decide|(simp;done))) ?hk_18 (fun _ _ h=>h.elim) ?hl_18
 case hk_18=>
  rintro _ _ ⟨rfl,rfl⟩;refine ⟨Ad,?_⟩;refine Am ?_;refine Zx<|Zb [1,2,3] ?_;refine CV (e0:=[]) (H0:=[[(bq,.cells #[I4 ((1+C9 q0 7:Nat):Int),I4 (C9 (q0.tdiv 7) 3:Int),I4 (C9 (q1.tdiv 9) 4:Int),I4 ((C9 q2 14:Int) -2),I4 ((C9 q2 14:Int) -2+(C9 q3 14:Int)),I4 0,I4 0] 30 (0,0))]]) (fun e H=>∃(lo hi:Int),(-100≤lo∧lo≤hi∧hi≤100)∧e=[]∧H=[[(bq,.cells #[I4 ((1+C9 q0 7:Nat):Int),I4 (C9 (q0.tdiv 7) 3:Int),I4 (C9 (q1.tdiv 9) 4:Int),I4 lo,I4 hi,I4 0,I4 0] 30 (0,0))]]) Wp ?hx_19 ?hy_19
  case hx_19=>
   refine Zq<|Zg<|Zh 2 underlying30 rfl rfl sizeOf3 Y<|Zl isAgg3 Y ?_;refine Zv (C8 (n:=3) Y Y)<|Z0<|Zx ?_;refine Ao Y (fun k2=>?_) (fun k2=>?_)
   ·
    refine Zq<|Zg<|Zh 3 underlying30 rfl rfl sizeOf3 Y<|Zl isAgg3 Y ?_
    (refine BM (ZL Y Y (IntWalk.i64_in _ ?_)) ?_;(focus (omega)))
    (refine BM (G9 Y Y (IntWalk.i64_in _ ?_)) ?_;(focus (omega)))
    refine Zh 3 underlying30 rfl rfl sizeOf3 Y<|Xe (Zs sizeOf3 Y Y rfl (hi:=by first|omega|decide|(simp;done))) ?_;refine Z0<|Zx<|Zg<|Zh 4 underlying30 rfl rfl sizeOf3 Y<|Zl isAgg3 Y ?_
    (refine BM (ZL Y Y (IntWalk.i64_in _ ?_)) ?_;(focus (omega)))
    (refine BM (G9 Y Y (IntWalk.i64_in _ ?_)) ?_;(focus (omega)))
    refine Zh 4 underlying30 rfl rfl sizeOf3 Y<|Xe (Zs sizeOf3 Y Y rfl (hi:=by first|omega|decide|(simp;done))) ?_;refine Z0<|Zn [1,2,3] ?_;refine BA (e':=[]) (by(have h9:C9 (q1.tdiv 9) 4=3:=k2;exact ⟨((C9 q2 14:Int) -2)*3 -20,((C9 q2 14:Int) -2+(C9 q3 14:Int))*3 -20,⟨by omega,by omega,by omega⟩,rfl,rfl⟩))
   refine AB<|Zn [1,2,3] ?_;refine BA (e':=[]) (by exact ⟨(C9 q2 14:Int) -2,(C9 q2 14:Int) -2+(C9 q3 14:Int),⟨by omega,by omega,by omega⟩,rfl,rfl⟩)
  rintro _ _ ⟨lo,hi,⟨hlo,hlh,hhi⟩,rfl,rfl⟩;refine Zb [1,2,3] ?_;refine CV (e0:=[]) (H0:=[[(bq,.cells #[I4 ((1+C9 q0 7:Nat):Int),I4 (C9 (q0.tdiv 7) 3:Int),I4 (C9 (q1.tdiv 9) 4:Int),I4 lo,I4 hi,I4 0,I4 0] 30 (0,0))]]) (fun e H=>∃(b9:Int),((3≤C9 q0 7∧1≤b9∧b9≤3)∨(C9 q0 7<3∧b9=0))∧e=[]∧H=[[(bq,.cells #[I4 ((1+C9 q0 7:Nat):Int),I4 (C9 (q0.tdiv 7) 3:Int),I4 (C9 (q1.tdiv 9) 4:Int),I4 lo,I4 hi,I4 b9,I4 0] 30 (0,0))]]) Wp ?hx_22 ?hy_22
  case hx_22=>
   refine Zq<|Zg<|Zh 0 underlying30 rfl rfl sizeOf3 Y<|Zl isAgg3 Y ?_;refine Zv (FR (n:=4) Y Y)<|Z0<|Zx ?_;refine Ao Y (fun k3=>?_) (fun k3=>?_)
   ·
    refine Zg ?_;refine BM (BG (j:=4) underlying23 sizeOf3 Y Y (by first|omega|decide|(simp;done))) ?_;refine Zl isAgg3 Y ?_;refine Xr [_,_] Y call106 Y rfl (KX q4 3 (by decide) (by decide) hq41 hq42) ?_;refine Ya (m:=1) Y Y<|Zh 5 underlying30 rfl rfl sizeOf3 Y<|Xe (Zs sizeOf3 Y Y rfl (hi:=by first|omega|decide|(simp;done))) ?_;refine Z0<|Zn [1,2,3] ?_;refine BA (e':=[]) (by exact ⟨((1+C9 q4 3:Nat):Int),.inl ⟨by omega,by omega,by omega⟩,rfl,rfl⟩)
   refine AB<|Zn [1,2,3] ?_;refine BA (e':=[]) (by exact ⟨0,.inr ⟨by omega,rfl⟩,rfl,rfl⟩)
  rintro _ _ ⟨b9,hb9,rfl,rfl⟩;refine Zb [1,2,3] ?_;refine CV (e0:=[(1,_)]) (H0:=[[(bq,.cells #[I4 ((1+C9 q0 7:Nat):Int),I4 (C9 (q0.tdiv 7) 3:Int),I4 (C9 (q1.tdiv 9) 4:Int),I4 lo,I4 hi,I4 b9,I4 0] 30 (0,0))]]) (fun e H=>∃(b8 o8:Int),(BN ⟨((1+C9 q0 7:Nat):Int),(C9 (q0.tdiv 7) 3:Int),(C9 (q1.tdiv 9) 4:Int),lo,hi,b8,o8⟩)∧e=[]∧H=[[(bq,.cells #[I4 ((1+C9 q0 7:Nat):Int),I4 (C9 (q0.tdiv 7) 3:Int),I4 (C9 (q1.tdiv 9) 4:Int),I4 lo,I4 hi,I4 b8,I4 o8] 30 (0,0))]]) Wp ?hx_25 ?hy_25
  case hx_25=>
   refine Zq<|Zg<|Zh 0 underlying30 rfl rfl sizeOf3 Y<|Zl isAgg3 Y ?_;refine Zv (C8 (n:=7) Y Y)<|Z0<|Zx ?_;refine Ao Y (fun k4=>?_) (fun k4=>?_)
   ·
    refine Zq<|Zg ?_;refine BM (BG (j:=4) underlying23 sizeOf3 Y Y (by first|omega|decide|(simp;done))) ?_;refine Zl isAgg3 Y ?_;refine Zv (TD (m:=q4) (n:=3) Y Y (by decide) (IntWalk.i64_in _ (by have:=H7 3 (by decide) hq41 hq42;omega))) ?_;refine Xr [_,_] Y call106 Y rfl (KX (q4.tdiv 3) 3 (by decide) (by decide) htq43.1 htq43.2) ?_;refine Zh 6 underlying30 rfl rfl sizeOf3 Y<|Xe (Zs sizeOf3 Y Y rfl (hi:=by first|omega|decide|(simp;done))) ?_;refine Z0<|Zx<|Zq<|Zg ?_;refine BM (BG (j:=4) underlying23 sizeOf3 Y Y (by first|omega|decide|(simp;done))) ?_;refine Zl isAgg3 Y ?_;refine Zv (TD (m:=q4) (n:=9) Y Y (by decide) (IntWalk.i64_in _ (by have:=H7 9 (by decide) hq41 hq42;omega))) ?_;refine Xr [_,_] Y call106 Y rfl (KX (q4.tdiv 9) 3 (by decide) (by decide) htq49.1 htq49.2) ?_;refine Zv (Cz (n:=0) Y Y)<|Z0<|Zn [2,3,75] ?_;refine Zx ?_;refine Ao Y (fun k5=>?_) (fun k5=>?_)
    ·
     refine Zg<|Zh 5 underlying30 rfl rfl sizeOf3 Y<|Xe (Zs sizeOf3 Y Y rfl (hi:=by first|omega|decide|(simp;done))) ?_;refine Z0<|Zn [2,3] ?_;refine BA (e':=[]) (by(have h9:0<C9 (q4.tdiv 9) 3:=k5;exact ⟨2,(C9 (q4.tdiv 3) 3:Int),LJ (by omega),rfl,rfl⟩))
    refine AB<|Zn [2,3] ?_;refine BA (e':=[]) (by(have h9:1+C9 q0 7=7:=k4;exact ⟨b9,(C9 (q4.tdiv 3) 3:Int),LJ (by omega),rfl,rfl⟩))
   refine AB<|Zn [2,3] ?_;refine BA (e':=[]) (by exact ⟨b9,0,LJ (by omega),rfl,rfl⟩)
  rintro _ _ ⟨b8,o8,hv,rfl,rfl⟩;refine Zq<|Zg<|Zo Wh (Ab (cs:=#[_,_,_,_,_,_,_]) isAgg30 sizeOf30 Y Wb (by exact BB rfl)) ?_;refine Xe (BO sizeOf30 Y Y (by(simp [Value.oneCell'];done)) Wu (by exact DT rfl) (by first|rfl|(simp;done)) Wb (by exact BQ _)) ?_;refine Z0<|Zx<|A9 ?_;refine D7 rfl results45 Y Wh (Ai isAgg30 sizeOf30 Wn (BB rfl)) (by exact ⟨⟨_,_,_,_,_,_,_⟩,hv,rfl,rfl⟩)
 exact Av
theorem qZ{M:List AR}{v:Value}{xs:List (List Int)}(hX:Nb M v xs):CK Tryz.prog 44 #[v] [M] (fun r H'=>∃(l:List Bp) (s:List AR),DU l∧l.length≤20∧Dv s r l∧H'=[s,M]):=by
 have hml:=mL;obtain ⟨py,capy,rfl,hyl,hgy⟩:=id hX;have hX2:=gM hX (min xs.length 20) (Nat.min_le_left _ _)
 have hyk:(xs.take (min xs.length 20)).length≤20:=by rw [sW];omega
 refine Se func44 ntmps44 [0] ?_;intro u R;refine Zq<|Zg<|Za Y<|Z0<|Zx<|Zq<|Zg<|Zm Y<|Zm Y<|Zv (AU underlying22 Y)<|Zv (OA (n:=20) Y Y) ?_;refine BM (Bg underlying22 sizeOf217 Y Y (by first|omega|(simp;omega))) ?_;refine Zc [_] Y call105 Y rfl (oZ hX2 (by omega)) ?_;rintro _ _ ⟨_,⟨l,sl,hlog,hll,hRI,rfl⟩,rfl⟩;refine Za Y<|Z0<|Zx<|A9 ?_;refine AC rfl results44 Y (by exact ⟨l,sl,hlog,by omega,hRI,rfl⟩)
set_option maxHeartbeats 1000000 in
theorem Vh{M:List AR}{v:Value}{xs:List (List Int)}(hX:Nb M v xs)(q0 q1 q2 q3 q4 cb cu:Int)(hq01:-9223372036854775808≤q0)(hq02:q0≤9223372036854775807)(hq11:-9223372036854775808≤q1)(hq12:q1≤9223372036854775807)(hq21:-9223372036854775808≤q2)(hq22:q2≤9223372036854775807)(hq31:-9223372036854775808≤q3)(hq32:q3≤9223372036854775807)(hq41:-9223372036854775808≤q4)(hq42:q4≤9223372036854775807)(hcb1:-9223372036854775808≤cb)(hcb2:cb≤9223372036854775807)(hcu1:-9223372036854775808≤cu)(hcu2:cu≤9223372036854775807)(tw:Value):CK Tryz.prog 12 #[.agg #[v,I4 q0,I4 q1,I4 q2,I4 q3,I4 q4,I4 cb,I4 cu,tw]] [M] (fun r H'=>∃(l:List Bp) (p:Option Addr) (cap:Nat) (s:List AR) (q:QM) (a b:Nat),DU l∧l.length≤20∧Dv s (.slice p l.length cap) l∧BN q∧a≤b∧b≤l.length∧r= .tuple #[.slice p l.length cap,.agg #[I4 q.kd,I4 q.tb,I4 q.cl,I4 q.lo,I4 q.hi,I4 q.bq,I4 q.ot],I4 (a:Int),I4 (b:Int)]∧H'=[s,M]):=by
 have hml:=mL;obtain ⟨py,capy,rfl,hyl,hgy⟩:=id hX;refine Se func12 ntmps12 [0] ?_;intro u R;refine Zq<|Zg<|Ze (Bx #[.slice py xs.length capy,I4 q0,I4 q1,I4 q2,I4 q3,I4 q4,I4 cb,I4 cu,tw]) ?_;rintro _ _ ⟨bc,rfl,rfl⟩;refine Za Y<|Ze (Al zeroValue30 #[_,_,_,_,_,_,_]) ?_;rintro _ _ ⟨bq,rfl,rfl⟩;refine Za Y<|Za Y<|Z0<|Zx<|Zq<|Zg<|Zh 0 underlying26 rfl rfl sizeOf22 Y<|Zl isAgg22 Y ?_;refine Zc [_] Y call44 Y rfl (qZ hX) ?_;rintro _ _ ⟨_,⟨l,sl,hlog,hll,hRI,rfl⟩,rfl⟩;obtain ⟨pl,cl,rfl,hl1,hl2⟩:=id hRI;refine Za Y<|Z0<|Zx<|Zq<|Zg<|Zh 6 underlying26 rfl rfl sizeOf3 Y<|Zl isAgg3 Y ?_;refine Zm Y<|Zv (AU underlying28 Y)<|Ya (n:=1) Y Y<|Xr [_,_] Y call32 Y rfl (iM cb (l.length+1) (by omega) (by omega) hcb1 hcb2) ?_;obtain ⟨a,ha⟩:∃a,a=C9 cb (l.length+1):=⟨_,rfl⟩;rw [←ha];have hal:=FK cb (l.length+1) (by omega)
 rw [←ha]at hal;refine Za Y<|Z0<|Zn [1,3,6,7] ?_;refine Zx<|Zq<|BK (n:=19) (0::0::2::6::0::0::0::64::0::256::0::1792::3840::8142::16366::16335::49103::114655::262143::[]) 73736 (by kernel_rfl) (by kernel_rfl) rfl ?_;refine Zi 1 0 rfl (AJ Y)<|Zi 3 1 rfl (Aa (off:=1) underlying26 rfl rfl sizeOf23 Y)<|DW (D':=7) 2 rfl rfl rfl Wh (Pa #[_,_,_,_,_] isAgg23 sizeOf23 Y) ?_;refine Zi 23 4 rfl (AJ Y)<|Zi 55 5 rfl (AJ Y)<|Zi 119 6 rfl (Aa (off:=7) underlying26 rfl rfl sizeOf3 Y)<|Zj 247 7 rfl isAgg3 Y ?_;refine Zi 503 8 rfl (AJ Y)<|Zi 1015 9 rfl (AU underlying28 Y)<|Zi 2039 10 rfl (AJ Y) ?_
 (refine EF (D':=4087) 11 (Bf Y Y ?_ ?_) ?_;(focus (omega));(focus (omega)))
 refine Zi 8183 12 rfl (D6 (n:=1) Y Y (by omega)) ?_;refine Zz (l:=[3]) ?_;refine Zy 6 8191 [7,2] [true,false] [(7,(_,_))] rfl Y rfl rfl rfl rfl (Zw [_] Y call45 Y rfl (og q0 q1 q2 q3 q4 hq01 hq02 hq11 hq12 hq21 hq22 hq31 hq32 hq41 hq42)) ?hk_1 D9 ?hl_1
 case hk_1=>
  rintro _ _ ⟨_,⟨q,hq,rfl,rfl⟩,rfl⟩;refine ⟨Zk (Ad),?_⟩;refine Yw 13 16383 rfl (Zu [_,_] Y call32 Y rfl (iM cu (l.length -a+1) (by omega) (by omega) hcu1 hcu2)) ?_;rintro _ _ ⟨rfl,rfl⟩;obtain ⟨d,hd⟩:∃d,d=C9 cu (l.length -a+1):=⟨_,rfl⟩;rw [←hd];have hdl:=FK cu (l.length -a+1) (by omega)
  rw [←hd]at hdl;refine Zi 32767 14 rfl (D6 Y Y (by omega)) ?_;refine Zi 65535 15 rfl (Ay Y)<|Zz (l:=[16]) ?_;refine Zy 49103 131071 [] [] [] rfl Y rfl rfl rfl rfl (BO sizeOf30 Y Y (by(simp [Value.oneCell'];done)) Wu (by exact DT rfl) (by first|rfl|(simp;done)) Wb (by exact BQ _)) ?hk_3 (fun _ _ h=>h.elim) ?hl_3
  case hk_3=>
   rintro _ _ ⟨rfl,rfl⟩;refine ⟨Ad,?_⟩;refine Zi 262143 17 rfl (Ay Y)<|Zi 524287 18 rfl (Ay Y)<|Am ?_;refine Zn [2,3,4,5] ?_;refine Zx<|A9 ?_;refine Y0 rfl results12 Y Y Wh (Ai isAgg30 sizeOf30 Wn (BB rfl)) Y Y (by exact ⟨l,pl,cl,sl,q,a,a+d,hlog,hll,hRI,hq,by omega,by omega,rfl,rfl⟩)
  exact Av
 exact Av
set_option maxHeartbeats 2000000 in
theorem ed{M:List AR}{p:Option Addr}{cap:Nat}{l:List Bp}(hRI:Dv M (.slice p l.length cap) l)(hlog:DU l)(hll:l.length≤20)(a b:Nat)(hab:a≤b)(hb:b≤l.length)(q:QM)(hq:BN q)(Tg:TypeId)(zg:Nat×Nat):CK Tryz.prog 29 #[.slice p l.length cap,I4 (a:Int),I4 (b:Int),.agg #[I4 q.kd,I4 q.tb,I4 q.cl,I4 q.lo,I4 q.hi,I4 q.bq,I4 q.ot]] [[(1,.cells (Cv.map Bn).toArray Tg zg)],M] (fun w H'=>∃(z:KU) (s mem:List AR) (t:Bool) (pg:Option Addr) (cg:Nat),((t=true∧Dp l a b q=some z.a∧z.ok (s++mem++M))∨(t=false∧Dp l a b q=none))∧Gq mem (.slice pg (Ee (Bh (l.take a)) q).length cg) (Ee (Bh (l.take a)) q)∧w= .tuple #[.agg #[I4 q.kd,I4 q.tb,I4 q.cl,I4 q.lo,I4 q.hi,I4 q.bq,I4 q.ot,I4 0,I4 (a:Int),.slice pg (Ee (Bh (l.take a)) q).length cg],.agg #[I4 z.a.q.kd,I4 z.a.q.tb,I4 z.a.q.cl,I4 z.a.q.lo,I4 z.a.q.hi,I4 z.a.q.bq,I4 z.a.q.ot,.slice z.rp z.a.res.rows.length z.rc,I4 z.a.res.val,.bool z.a.res.fnd,I4 z.a.since,I4 z.a.until_,I4 z.a.base,.slice z.gp z.a.ranges.length z.gc,.slice z.cp z.a.recs.length z.cc],.bool t]∧H'=[s,mem,[(1,.cells (Cv.map Bn).toArray Tg zg)],M]):=by
 have hml:=mL;obtain ⟨p9,cap9,e9,⟨hl1,hl2⟩,_⟩:=id hRI;injection e9 with e91 e92 e93
 subst e91 e93;obtain ⟨hs,hn⟩:=hlog.rows a (by omega);have hok:=hlog.rowsOk a (by omega)
 have hscan:=Fa hlog hll (by omega:a≤l.length) q;have hst:=FH hs hn hok hq hscan
 have hmk:=Lb (Bh (l.take a)) q;obtain ⟨L,hL⟩:∃L,L=Ee (Bh (l.take a)) q:=⟨_,rfl⟩;have hbt:Dp l a b q=Ew q (a:Int) L (Et l a b):=by unfold Dp;rw [←hL]
 rw [←hL]at hst hmk⊢;refine Se func29 ntmps29 [0,1,2,3] ?_;intro u R;refine Zq<|Zg<|Ze (Bx #[I4 q.kd,I4 q.tb,I4 q.cl,I4 q.lo,I4 q.hi,I4 q.bq,I4 q.ot]) ?_;rintro _ _ ⟨bq,rfl,rfl⟩;refine Ze (Al zeroValue57 #[_,_,_,_,_,_,_,_,_,_]) ?_;rintro _ _ ⟨be,rfl,rfl⟩;refine Ze (Al zeroValue53 #[_,_,_,_,_,_,_,_,_,_,_,_,_,_,_]) ?_;rintro _ _ ⟨ba,rfl,rfl⟩;refine Za Y<|Z0<|Zx<|Zq<|Zg<|Zm Y<|Zm Y<|Zc [_,_] Y call13 Y rfl (rP hRI hlog (by omega) a (by omega)) ?_;rintro _ _ ⟨_,⟨vs,ss,rfl,hS,rfl⟩,rfl⟩;refine Zm Y<|Zd Y rfl<|Zd Y rfl<|Za Y<|Za Y<|Z0<|Zx<|Zq<|Zq<|Zg<|Zm Y<|Zv (Dx (n:=0) Y Y)<|Z0<|Zn [0,1,2,7,8,9,11,25] ?_;refine Zx ?_;refine Ao Y (fun hb0=>?_) (fun hb0=>?_)
 ·
  exact absurd rfl hb0
 refine AB<|Zx<|Zq<|Zg<|Zm Y<|Zo Wh (Ab (cs:=#[_,_,_,_,_,_,_]) isAgg30 sizeOf30 Y Wb (by exact BB rfl)) ?_;refine Zc [_,_] Y call15 Y rfl (ou _ _ _ _ hS hs hn hok q hq hscan Tg zg) ?_;rintro _ _ ⟨_,⟨vo,mem,rfl,hRP,rfl⟩,rfl⟩;rw [←hL]at hRP;obtain ⟨pg,cg,rfl,hg1,hg2⟩:=hRP.form;refine Zm Y<|Zd Y rfl<|Zd Y rfl<|Za Y<|Za Y<|Z0<|Zx<|Zq<|Zg<|Zo Wh (Ab (cs:=#[_,_,_,_,_,_,_]) isAgg30 sizeOf30 Y Wb (by exact BB rfl)) ?_;refine Zm Y<|Zm Y<|Zv (BJ (vs:=[(0,.agg #[I4 q.kd,I4 q.tb,I4 q.cl,I4 q.lo,I4 q.hi,I4 q.bq,I4 q.ot]),(2,I4 (a:Int)),(3,.slice pg L.length cg)]) (cs:=#[I4 q.kd,I4 q.tb,I4 q.cl,I4 q.lo,I4 q.hi,I4 q.bq,I4 q.ot,I4 0,I4 (a:Int),.slice pg L.length cg]) Y (AZ (pl:=#[(0,7),(7,1),(8,1),(9,1)]) zeroValue57 underlying57 (fun _=>by kernel_rfl) (by kernel_rfl))) ?_;refine Ze (Al zeroValue57 #[_,_,_,_,_,_,_,_,_,_]) ?_;rintro _ _ ⟨bx,rfl,rfl⟩;refine Xe (Xw sizeOf57 #[I4 q.kd,I4 q.tb,I4 q.cl,I4 q.lo,I4 q.hi,I4 q.bq,I4 q.ot,I4 0,I4 (a:Int),.slice pg L.length cg]) ?_;refine Z0<|Zn [0,1,2,8,9,14,15] ?_;refine Zx<|Zb [0,1,2,8,9,14,15] ?_;refine CV (e0:=[(0,_),(1,_),(2,_)]) (H0:=[mem,M]) (fun e H=>∃(z:KU) (s:List AR) (t:Bool) (bz:Nat),((t=true∧Ew q (a:Int) L (Et l a b)=some z.a∧z.ok (s++mem++M))∨(t=false∧Ew q (a:Int) L (Et l a b)=none))∧e=[(16,I5 bz),(17,.bool t)]∧H=[[(bz,.cells #[I4 z.a.q.kd,I4 z.a.q.tb,I4 z.a.q.cl,I4 z.a.q.lo,I4 z.a.q.hi,I4 z.a.q.bq,I4 z.a.q.ot,.slice z.rp z.a.res.rows.length z.rc,I4 z.a.res.val,.bool z.a.res.fnd,I4 z.a.since,I4 z.a.until_,I4 z.a.base,.slice z.gp z.a.ranges.length z.gc,.slice z.cp z.a.recs.length z.cc] 53 (0,0))],s,mem,M]) Wp ?hx_1 ?hy_1
 case hx_1=>
  refine BK (n:=12) (0::0::0::0::14::31::63::127::127::0::767::2047::[]) 1568 (by kernel_rfl) (by kernel_rfl) rfl ?_;refine DW (D':=1) 0 rfl rfl rfl Wh (Ab (cs:=#[I4 q.kd,I4 q.tb,I4 q.cl,I4 q.lo,I4 q.hi,I4 q.bq,I4 q.ot,I4 0,I4 (a:Int),.slice pg L.length cg]) isAgg57 sizeOf57 Y (by exact su _) (by exact BB rfl)) ?_;refine Zi 3 1 rfl (AJ Y)<|Zi 7 2 rfl (AJ Y)<|Zi 15 3 rfl (AJ Y) ?_
  (refine EF (D':=31) 4 (Lr underlying28 sizeOf73 Y Y Y ?_ ?_) ?_;(focus (omega));(focus (omega)))
  refine Zz (l:=[5,9]) ?_;refine Zy 31 63 [0] [false] [] rfl Y rfl rfl rfl rfl (Zw [_,_] Y call18 Y rfl (NV q 0 (a:Int) (by omega) (hRP.mono (fun c hc=>uE M hc)) (by omega) hst (G8 (Mw hRI hab hb) (fun c hc=>tN mem hc)) (Kl hlog a b))) ?hk_2 D9 ?hl_2
  case hk_2=>
   rintro _ _ ⟨_,⟨z,s,t,hz,rfl,rfl⟩,rfl⟩;refine ⟨Ad,?_⟩;refine Zi 127 6 rfl (AJ Y)<|Zi 255 7 rfl (Cc Y rfl)<|Zi 511 8 rfl (Cc Y rfl)<|Zz (l:=[9]) ?_;refine Zy 0 1023 [] [] [] rfl Y rfl rfl rfl rfl (Al zeroValue53 #[_,_,_,_,_,_,_,_,_,_,_,_,_,_,_]) ?hk_3 (fun _ _ h=>h.elim) ?hl_3
   case hk_3=>
    rintro _ _ ⟨bz,rfl,rfl⟩;refine ⟨Ad,?_⟩;refine Yw 10 2047 rfl (Xw sizeOf53 #[I4 z.a.q.kd,I4 z.a.q.tb,I4 z.a.q.cl,I4 z.a.q.lo,I4 z.a.q.hi,I4 z.a.q.bq,I4 z.a.q.ot,.slice z.rp z.a.res.rows.length z.rc,I4 z.a.res.val,.bool z.a.res.fnd,I4 z.a.since,I4 z.a.until_,I4 z.a.base,.slice z.gp z.a.ranges.length z.gc,.slice z.cp z.a.recs.length z.cc]) ?_;rintro _ _ ⟨rfl,rfl⟩;refine Zi 4095 11 rfl (Ay Y)<|Am ?_;refine Zn [16,17,8,9,14,15] ?_;refine BA (e':=[(16,_),(17,_)]) (by exact ⟨z,s,t,bz,hz,rfl,rfl⟩)
   exact Av
  refine Zy 0 543 [0] [true] [(0,(_,_))] rfl Y rfl rfl rfl rfl (Al zeroValue53 #[_,_,_,_,_,_,_,_,_,_,_,_,_,_,_]) ?hk_6 (fun _ _ h=>h.elim) ?hl_6
  case hk_6=>
   rintro _ _ ⟨bz,rfl,rfl⟩;refine ⟨Zk (Ad),?_⟩;refine Zz (l:=[5]) ?_;refine Zy 31 575 [0] [false] [] rfl Y rfl rfl rfl rfl (Zw [_,_] Y call18 Y rfl (NV q 0 (a:Int) (by omega) (hRP.mono (fun c hc=>uE M hc)) (by omega) hst (G8 (Mw hRI hab hb) (fun c hc=>tN mem hc)) (Kl hlog a b))) ?hk_7 D9 ?hl_7
   case hk_7=>
    rintro _ _ ⟨_,⟨z,s,t,hz,rfl,rfl⟩,rfl⟩;refine ⟨Ad,?_⟩;refine Zi 639 6 rfl (AJ Y)<|Zi 767 7 rfl (Cc Y rfl)<|Zi 1023 8 rfl (Cc Y rfl)<|Zz (l:=[10]) ?_;refine Zy 767 2047 [] [] [] rfl Y rfl rfl rfl rfl (Xw sizeOf53 #[I4 z.a.q.kd,I4 z.a.q.tb,I4 z.a.q.cl,I4 z.a.q.lo,I4 z.a.q.hi,I4 z.a.q.bq,I4 z.a.q.ot,.slice z.rp z.a.res.rows.length z.rc,I4 z.a.res.val,.bool z.a.res.fnd,I4 z.a.since,I4 z.a.until_,I4 z.a.base,.slice z.gp z.a.ranges.length z.gc,.slice z.cp z.a.recs.length z.cc]) ?hk_8 (fun _ _ h=>h.elim) ?hl_8
    case hk_8=>
     rintro _ _ ⟨rfl,rfl⟩;refine ⟨Ad,?_⟩;refine Zi 4095 11 rfl (Ay Y)<|Am ?_;refine Zn [16,17,8,9,14,15] ?_;refine BA (e':=[(16,_),(17,_)]) (by exact ⟨z,s,t,bz,hz,rfl,rfl⟩)
    exact Av
   exact Av
  exact Av
 rintro _ _ ⟨z,s,t,bz,hz,rfl,rfl⟩;refine Zq<|BK (n:=10) (0::0::0::4::12::28::60::29::159::511::[]) 384 (by kernel_rfl) (by kernel_rfl) rfl ?_;refine DW (D':=1) 0 rfl rfl rfl Wh (Ab (cs:=#[_,_,_,_,_,_,_,_,_,_]) isAgg57 sizeOf57 Y Wb (by exact BB rfl)) ?_;refine DW (D':=3) 1 rfl rfl rfl Wh (Ab (cs:=#[_,_,_,_,_,_,_,_,_,_,_,_,_,_,_]) isAgg53 sizeOf53 Y Wb (by exact BB rfl)) ?_;refine Zi 7 2 rfl (AJ Y)<|Zi 15 3 rfl (C8 (n:=0) Y Y)<|Zi 31 4 rfl (AJ Y) ?_;refine CR (t:=51) Y (fun hb2=>?_) (fun hb2=>?_)
 ·
  first|rw [decide_eq_true hb2]|rw [hb2]|skip
  refine Af (D':=63) 5 Y rfl rfl rfl (AJ Y) ?_;refine Zi 127 6 rfl (AL Y Y)<|Zz (l:=[7]) ?_;refine Zy 29 255 [1,0] [true,false] [(1,(_,_))] rfl Y rfl rfl rfl rfl (BO sizeOf57 Y Y (by(simp [Value.oneCell'];done)) Wu (by exact DT rfl) (by first|rfl|(simp;done)) Wb (by exact BQ _)) ?hk_10 (fun _ _ h=>h.elim) ?hl_10
  case hk_10=>
   rintro _ _ ⟨rfl,rfl⟩;refine ⟨Zk (Ad),?_⟩;refine Yw 8 511 rfl (BO sizeOf53 Y Y (by(simp [Value.oneCell'];done)) Wu (by exact DT rfl) (by first|rfl|(simp;done)) Wb (by exact BQ _)) ?_;rintro _ _ ⟨rfl,rfl⟩;refine Zi 1023 9 rfl (Ay Y)<|Am ?_;refine Zx<|A9 ?_;refine cZ rfl results29 Y Y Y Wh Wh (Ai isAgg57 sizeOf57 Wn (BB rfl)) (Ai isAgg53 sizeOf53 Wn (BB rfl)) (by exact ⟨z,s,mem,t,pg,cg,by rw [hbt];exact hz,hRP,rfl,rfl⟩)
  exact Av
 first|rw [decide_eq_false hb2]|rw [hb2]|skip
 exact absurd rfl hb2
theorem Uk{M:List AR}{p:Option Addr}{cap:Nat}{l:List Bp}(hRI:Dv M (.slice p l.length cap) l)(hlog:DU l)(hll:l.length≤20)(a b:Nat)(hab:a≤b)(hb:b≤l.length)(q:QM)(hq:BN q)(Tg:TypeId)(zg:Nat×Nat):CK Tryz.prog 29 #[.slice p l.length cap,I4 (a:Int),I4 (b:Int),.agg #[I4 q.kd,I4 q.tb,I4 q.cl,I4 q.lo,I4 q.hi,I4 q.bq,I4 q.ot]] [[(1,.cells (Cv.map Bn).toArray Tg zg)],M] (fun w H'=>∃(z:KU) (E:List AR) (t:Bool) (pg:Option Addr) (cg:Nat),((t=true∧Dp l a b q=some z.a∧z.ok (E++M))∨(t=false∧Dp l a b q=none))∧Gq (E++M) (.slice pg (Ee (Bh (l.take a)) q).length cg) (Ee (Bh (l.take a)) q)∧w= .tuple #[.agg #[I4 q.kd,I4 q.tb,I4 q.cl,I4 q.lo,I4 q.hi,I4 q.bq,I4 q.ot,I4 0,I4 (a:Int),.slice pg (Ee (Bh (l.take a)) q).length cg],.agg #[I4 z.a.q.kd,I4 z.a.q.tb,I4 z.a.q.cl,I4 z.a.q.lo,I4 z.a.q.hi,I4 z.a.q.bq,I4 z.a.q.ot,.slice z.rp z.a.res.rows.length z.rc,I4 z.a.res.val,.bool z.a.res.fnd,I4 z.a.since,I4 z.a.until_,I4 z.a.base,.slice z.gp z.a.ranges.length z.gc,.slice z.cp z.a.recs.length z.cc],.bool t]∧H'=[E,[(1,.cells (Cv.map Bn).toArray Tg zg)],M]):=by
 refine ET (ed hRI hlog hll a b hab hb q hq Tg zg) rfl ?_;rintro w H' ⟨z,s,mem,t,pg,cg,h1,h2,rfl,rfl⟩;exact ⟨_,⟨z,s++mem,t,pg,cg,h1,h2.mono (fun c hc=>uE _ (tN _ hc)),rfl,rfl⟩,by simp⟩
theorem av{q:QM}{l:List Bp}{a b:Nat}{st st2:CO×Int}(h:Gg q (a:Int) 0 st (Et l a b)=some st2):Gg q (a:Int) 0 st ((l.drop a).take (b -a))=some st2:=h
theorem Fu{l:List Bp}(hl:DU l)(h20:l.length≤20){a b:Nat}(hab:a≤b)(hb:b≤l.length){q:QM}(hq:BN q){x:Mc}(h:Dp l a b q=some x):x=⟨q,Dh (Bh (l.take b)) q,x.since,(b:Int),(a:Int),Ee (Bh (l.take a)) q,Et l a b⟩∧Us q l a (b -a) x.since:=by
 obtain ⟨hs,hn⟩:=hl.rows a (by omega);have hst:=FH hs hn (hl.rowsOk a (by omega)) hq (Fa hl h20 (by omega) q)
 have hpl:=O3 (l:=l) (a:=a) hb;unfold Dp at h;rw [Ik hst (by omega)]at h;cases hr:Gg q (a:Int) 0 (Dh (Bh (l.take a)) q,(a:Int)) (Et l a b)with
 |none=>rw [hr]at h;cases h
 |some st=>
  rw [hr]at h;injection h with h
  obtain ⟨e1,e2⟩:=SL hq hl (by omega:a≤l.length) (b -a) (by omega) st (av hr);rw [show a+(b -a)=b by omega]at e1;subst h;refine ⟨?_,e2⟩;simp only [hpl,e1];congr 1;omega
theorem mU{l:List Bp}(hl:DU l){a b:Nat}(hb:b≤l.length)(hll:l.length≤20):∀(k:Nat) (x:Bp),(Et l a b)[k]?=some x→(a:Int)≤9223372036854775806 -((0+k:Nat):Int)∧x.p=(a:Int)+1+((0+k:Nat):Int):=fun k x hk=>by
 obtain ⟨h1,h2⟩:=Vm hk;have h3:x.p=((a+k:Nat):Int)+1:=(hl _ x h1).1.pos
 have h4:=(sS.1 h1).1;exact ⟨by omega,by rw [h3];push_cast;omega⟩
theorem Ox{l:List Bp}(hl:DU l)(h20:l.length≤20){a b:Nat}(hab:a≤b)(hb:b≤l.length){q:QM}(hq:BN q)(hk:1≤q.kd∧q.kd≤4):Dp l a b q≠none:=by
 obtain ⟨hs,hn⟩:=hl.rows a (by omega);have hst:=FH hs hn (hl.rowsOk a (by omega)) hq (Fa hl h20 (by omega) q)
 have hpl:=O3 (l:=l) (a:=a) hb;obtain ⟨st,hst2⟩:=Q0 hk (Et l a b) 0 (Dh (Bh (l.take a)) q,(a:Int)) (mU hl hb h20);unfold Dp;rw [Ik hst (by omega),hst2];exact fun h=>by cases h
theorem Vx{rs:List AQ}(hs:BI rs)(hn:rs.length≤2000)(q:QM):∀x∈Ee rs q,x.small:=fun x hx=>by
 unfold Ee at hx;rcases tq.1 hx with rfl|hx
 · exact ⟨Oh hs hn _ _ _ _,Oi hs hn _ _ _ _⟩
 · split at hx
   · obtain ⟨r,_,rfl⟩:=uT.1 hx
     exact ⟨Oh hs hn _ _ _ _,Oi hs hn _ _ _ _⟩
   · cases hx
theorem dF{rs:List AQ}(hs:BI rs)(hn:rs.length≤2000)(hok:∀r∈rs,r.ok){q:QM}(hq:BN q):∀x∈Ee rs q,Na (DZ rs) x:=fun x hx=>by
 have h1:=hq.1;have h2:=hq.2.1
 have h3:=hq.2.2.1.2.1;have h4:0≤q.ot∧q.ot≤3:=by have:=hq.2.2.2;omega
 unfold Ee at hx;rcases tq.1 hx with rfl|hx
 · exact S9 hs hn hok _ _ (by omega) (by omega) _ _ h3
 · split at hx
   · obtain ⟨r,_,rfl⟩:=uT.1 hx
     exact S9 hs hn hok _ _ (by omega) (by omega) _ _ (zP _)
   · cases hx
theorem Pd{l:List Bp}(hl:DU l)(h9:l.length≤9000){st:Bs}(hst:st.length=32){a:Nat}:∀k,a+k≤l.length→∃h,II st (EQ l a) ((l.drop a).take k)=some h∧h.p=((a+k:Nat):Int)∧h.ch=(EQ l (a+k)).ch∧h.ok∧(k=0→h=EQ l a)∧(0<k→h.st=st)
 |0,hk=>by
  obtain ⟨h1,h2,_⟩:=J2 hl h9 a (by omega);exact ⟨EQ l a,by rw [uY];rfl,h2,rfl,h1,fun _=>rfl,fun h=>by omega⟩
 |k+1,hk=>by
  obtain ⟨h,e1,e2,e3,e4,_,_⟩:=Pd hl h9 hst (a:=a) k (by omega);obtain ⟨r,hr⟩:∃r,l[a+k]?=some r:=⟨_,sQ (by omega)⟩;have hr2:(l.drop a)[k]?=some r:=by rw [uf];exact hr
  obtain ⟨ha,_⟩:=hl _ r hr;have hp:r.p=((a+k:Nat):Int)+1:=ha.pos
  have hnx:FO h r st:=⟨ha.ok,e4,hst,by rw [e2];exact hp⟩;refine ⟨GG h r st,by rw [M5 e1 hr2,if_pos hnx],by show r.p=_;rw [hp];rfl,?_,⟨⟨by show 0≤r.p;omega,by show r.p≤10000;omega⟩,Ot _ _,hst⟩,fun h=>by omega,fun _=>rfl⟩;show MX h.ch _=_
  rw [e3,show a+(k+1)=a+k+1 by omega,KE hr];rfl
theorem WR{l:List Bp}(hl:DU l)(h9:l.length≤9000){a b:Nat}(hab:a≤b)(hb:b≤l.length):J6 (EQ l a) (Et l a b) (EQ l b):=by
 obtain ⟨h1,_,_⟩:=J2 hl h9 a (by omega);obtain ⟨h2,h3,h4⟩:=J2 hl h9 b hb;obtain ⟨h,e1,e2,e3,e4,e5,e6⟩:=Pd hl h9 h2.2.2 (a:=a) (b -a) (by omega);refine ⟨h1,h2,?_⟩;unfold Et;rw [e1];rcases uz (b -a)with h0|h0
 · rw [e5 h0,show a=b by omega]
 · rw [show a+(b -a)=b by omega]at e2 e3
   exact congrArg some (aC.2 ⟨by rw [e2,h3],e3,e6 h0⟩)
theorem WS{l:List Bp}(hl:DU l)(h9:l.length≤9000){a b:Nat}(hab:a≤b)(hb:b≤l.length){u:Cq}(h:J6 (EQ l a) (Et l a b) u):u.p=(b:Int):=by
 obtain ⟨w,e1,e2,_⟩:=Pd hl h9 h.2.1.2.2 (a:=a) (b -a) (by omega);have h3:=h.2.2
 unfold Et at h3;rw [e1]at h3;injection h3 with h3
 rw [←h3,e2];congr 1;omega
theorem Mc.eqv_refl(a:Mc):a.eqv a:=⟨rfl,rfl,rfl,rfl,rfl,rfl,rfl⟩
theorem Oz{l:List Bp}(hl:DU l)(h20:l.length≤20){a b:Nat}(hab:a≤b)(hb:b≤l.length){q:QM}(hq:BN q){x:Mc}(h:Dp l a b q=some x):IG (EQ l a) (EQ l b) x:=by
 obtain ⟨hs,hn⟩:=hl.rows a (by omega);obtain ⟨e,_⟩:=Fu hl h20 hab hb hq h;have h2:=(J2 hl (by omega) b hb).2.1
 obtain ⟨_,h1,hst⟩:=J2 hl (by omega) a (by omega);unfold Dp at h;have hx:x.q=q∧x.base=(a:Int)∧x.ranges=Ee (Bh (l.take a)) q∧x.recs=Et l a b∧x.until_=(b:Int):=by rw [e];exact ⟨rfl,rfl,rfl,rfl,rfl⟩
 refine ⟨by rw [h1,hx.2.1],by rw [h2,hx.2.2.2.2],by rw [hx.2.2.2.1];exact WR hl (by omega) hab hb,fun y hy=>?_,x,by rw [hx.1,hx.2.1,hx.2.2.1,hx.2.2.2.1];exact h,x.eqv_refl⟩;rw [hst];exact dF hs hn (hl.rowsOk a (by omega)) hq y (by rw [←hx.2.2.1];exact hy)
theorem YV{l:List Bp}(hl:DU l)(h20:l.length≤20){a b:Nat}(hab:a≤b)(hb:b≤l.length){q:QM}(hq:BN q){x y:Mc}(h:Dp l a b q=some x)(hy:y.q=x.q∧y.base=x.base∧y.ranges=x.ranges∧y.recs=x.recs){u:Cq}:IG (EQ l a) u y→y.eqv x∧u.p=y.until_∧u.p=(b:Int):=fun hc=>by
 obtain ⟨e,_⟩:=Fu hl h20 hab hb hq h;have hx:x.q=q∧x.base=(a:Int)∧x.ranges=Ee (Bh (l.take a)) q∧x.recs=Et l a b:=by rw [e];exact ⟨rfl,rfl,rfl,rfl⟩
 obtain ⟨_,h2,h3,_,z,h5,h6⟩:=hc;rw [hy.1,hy.2.1,hy.2.2.1,hy.2.2.2,hx.1,hx.2.1,hx.2.2.1,hx.2.2.2]at h5;unfold Dp at h;rw [h]at h5;injection h5 with h5
 subst h5;rw [hy.2.2.2,hx.2.2.2]at h3;exact ⟨h6,h2,WS hl (by omega) hab hb h3⟩
def exC(k n:Int):Chg:=⟨0,k,false,⟨0,0,0⟩,true,⟨n,0,0⟩⟩
def exL(p1 p2 p3:Option Addr):List Bp:=[⟨1,p1,1,[exC 5 10]⟩,⟨2,p2,1,[exC 6 99]⟩,⟨3,p3,1,[exC 7 11]⟩]
def exQ:QM:=⟨3,0,1,10,19,0,0⟩
theorem Fs:BN exQ:=by decide
theorem oo{p k n:Int}(hp:1≤p∧p≤10000)(h:(exC k n).ok):EW p [exC k n]:=⟨hp,⟨su _,by show 1≤8;decide⟩,fun i c hc=>by
 match i,hc with
 |0,hc=>injection hc with hc;rw [←hc];exact h
 |i+1,hc=>simp at hc,fun i b c hb hc=>by simp at hc⟩
def exR:Nat→List AQ
 |0=>[]
 |1=>[⟨0,5,⟨10,0,0⟩⟩]
 |2=>[⟨0,5,⟨10,0,0⟩⟩,⟨0,6,⟨99,0,0⟩⟩]
 |_=>[⟨0,5,⟨10,0,0⟩⟩,⟨0,6,⟨99,0,0⟩⟩,⟨0,7,⟨11,0,0⟩⟩]
theorem aH(p1 p2 p3:Option Addr):Bh ((exL p1 p2 p3).take 0)=exR 0∧Bh ((exL p1 p2 p3).take 1)=exR 1∧Bh ((exL p1 p2 p3).take 2)=exR 2∧Bh ((exL p1 p2 p3).take 3)=exR 3:=⟨rfl,by kernel_rfl,by kernel_rfl,by kernel_rfl⟩
theorem YM{rs:List AQ}{p k n:Int}(hp:1≤p+1∧p+1≤10000)(h:(exC k n).ok)(hf:FY rs (exC k n))(hz:GJ rs [exC k n]≤2000):M4 rs p (p+1) [exC k n]:=⟨oo hp h,rfl,fun c hc=>by rw [tK.1 hc];exact hf,hz⟩
theorem YN(p1 p2 p3:Option Addr):DU (exL p1 p2 p3):=fun i r hr=>by
 obtain ⟨h0,h1,h2,_⟩:=aH p1 p2 p3
 match i,hr with
 |0,hr=>injection hr with hr;subst hr;rw [h0];exact ⟨YM (p:=0) (by decide) (by decide) (by unfold FY;decide) (by decide),by show 1≤3;decide⟩
 |1,hr=>injection hr with hr;subst hr;rw [h1];exact ⟨YM (p:=1) (by decide) (by decide) (by unfold FY;decide) (by decide),by show 1≤3;decide⟩
 |2,hr=>injection hr with hr;subst hr;rw [h2];exact ⟨YM (p:=2) (by decide) (by decide) (by unfold FY;decide) (by decide),by show 1≤3;decide⟩
 |i+3,hr=>simp [exL]at hr
theorem kE(p1 p2 p3:Option Addr):(∃x,Dp (exL p1 p2 p3) 1 2 exQ=some x∧x.res.val=1∧x.since=1∧x.until_=2)∧∃y,Dp (exL p1 p2 p3) 1 3 exQ=some y∧y.res.val=2∧y.since=3∧y.until_=3:=by
 have hl:=YN p1 p2 p3;obtain ⟨_,_,h2,h3⟩:=aH p1 p2 p3;have hk:1≤exQ.kd∧exQ.kd≤4:=by decide
 refine ⟨?_,?_⟩
 · cases h:Dp (exL p1 p2 p3) 1 2 exQ with
   |none=>exact absurd h (Ox hl (by show 3≤20;decide) (by decide) (by show 2≤3;decide) Fs hk)
   |some x=>
    obtain ⟨e,hs⟩:=Fu hl (by show 3≤20;decide) (by decide) (by show 2≤3;decide) Fs h;refine ⟨x,rfl,?_,?_,by rw [e];rfl⟩
    · rw [e,h2];exact (by decide:(Dh (exR 2) exQ).val=1)
    · obtain ⟨⟨a1,a2⟩,a3,_⟩:=hs
      rcases (by omega:x.since=1∨x.since=2)with h9|h9
      · exact h9
      · obtain ⟨j,r,hj,hr,ht⟩:=a3 (by rw [h9];decide)
        obtain rfl:j=1:=by omega
        injection hr with hr
        subst hr;have:Jw exQ ⟨2,p2,1,[exC 6 99]⟩=false:=(by decide:[exC 6 99].any (Di exQ)=false)
        rw [this]at ht;cases ht
 · cases h:Dp (exL p1 p2 p3) 1 3 exQ with
   |none=>exact absurd h (Ox hl (by show 3≤20;decide) (by decide) (by show 3≤3;decide) Fs hk)
   |some x=>
    obtain ⟨e,hs⟩:=Fu hl (by show 3≤20;decide) (by decide) (by show 3≤3;decide) Fs h;refine ⟨x,rfl,?_,?_,by rw [e];rfl⟩
    · rw [e,h3];exact (by decide:(Dh (exR 3) exQ).val=2)
    · obtain ⟨⟨a1,a2⟩,_,a4⟩:=hs
      rcases (by omega:x.since=3∨x.since≤2)with h9|h9
      · exact h9
      · have ht:=a4 2 ⟨3,p3,1,[exC 7 11]⟩ (by omega) (by decide) rfl
        have:Jw exQ ⟨3,p3,1,[exC 7 11]⟩=true:=(by decide:[exC 7 11].any (Di exQ)=true);rw [this]at ht;cases ht
theorem kD(p1 p2 p3:Option Addr):Ew exQ 1 (Ee (Bh ((exL p1 p2 p3).take 1)) exQ) (Et (exL p1 p2 p3) 2 3)=none:=by
 have hl:=YN p1 p2 p3;obtain ⟨hs,hn⟩:=hl.rows 1 (by show 1≤3;decide);have hst:=FH hs hn (hl.rowsOk 1 (by show 1≤3;decide)) Fs (Fa hl (by show 3≤20;decide) (by show 1≤3;decide) exQ)
 rw [Ik hst (by show 1≤64;decide)];rw [show Et (exL p1 p2 p3) 2 3=[⟨3,p3,1,[exC 7 11]⟩] from rfl];unfold Gg;rw [if_neg (fun h9=>by have:=h9.2.2;revert this;show(3:Int)=1+1+((0:Nat):Int)→False;decide)];rfl
theorem WZ:CK Tryz.prog 42 #[] [] (fun r H'=>∃g1 g2 g3 g0,r=I6 g0 3 3∧H'=[[(g1,.cells #[I4 0,I4 5,.bool false,I4 0,I4 0,I4 0,.bool true,I4 10,I4 0,I4 0] 77 (0,0))],[(g2,.cells #[I4 0,I4 6,.bool false,I4 0,I4 0,I4 0,.bool true,I4 99,I4 0,I4 0] 77 (0,0))],[(g3,.cells #[I4 0,I4 7,.bool false,I4 0,I4 0,I4 0,.bool true,I4 11,I4 0,I4 0] 77 (0,0))],[(g0,.cells #[I4 1,I6 g1 1 1,I4 2,I6 g2 1 1,I4 3,I6 g3 1 1] 73 (0,0))]]):=by
 refine Se func42 ntmps42 [] ?_;intro u R;refine Zq<|Zg<|Za Y<|Z0<|Zx<|Zq<|Zg<|Zv (BJ (vs:=[(0,_),(1,_),(2,_)]) (cs:=#[_,_,_]) Y (Ch zeroValue75 underlying75 sizeOf3 rfl)) ?_;refine Zv (BJ (vs:=[(1,I4 5),(4,.bool true),(5,.agg #[I4 10,I4 0,I4 0])]) (cs:=#[I4 0,I4 5,.bool false,I4 0,I4 0,I4 0,.bool true,I4 10,I4 0,I4 0]) Y (AZ (pl:=#[(0,1),(1,1),(2,1),(3,3),(6,1),(7,3)]) zeroValue77 underlying77 (fun _=>by kernel_rfl) (by kernel_rfl))) ?_;refine Ze (Ae (vs:=[_]) (cs:=[_,_,_,_,_,_,_,_,_,_]) underlying71 sizeOf77 zeroValue77 Y rfl rfl rfl rfl rfl) ?_;rintro _ _ ⟨g1,rfl,rfl⟩;refine Zv (BJ (vs:=[(0,_),(1,_)]) (cs:=#[_,_]) Y (AZ (pl:=#[(0,1),(1,1)]) zeroValue73 underlying73 (fun _=>by kernel_rfl) rfl)) ?_;refine Zv (BJ (vs:=[(0,_),(1,_),(2,_)]) (cs:=#[_,_,_]) Y (Ch zeroValue75 underlying75 sizeOf3 rfl)) ?_;refine Zv (BJ (vs:=[(1,I4 6),(4,.bool true),(5,.agg #[I4 99,I4 0,I4 0])]) (cs:=#[I4 0,I4 6,.bool false,I4 0,I4 0,I4 0,.bool true,I4 99,I4 0,I4 0]) Y (AZ (pl:=#[(0,1),(1,1),(2,1),(3,3),(6,1),(7,3)]) zeroValue77 underlying77 (fun _=>by kernel_rfl) (by kernel_rfl))) ?_;refine Ze (Ae (vs:=[_]) (cs:=[_,_,_,_,_,_,_,_,_,_]) underlying71 sizeOf77 zeroValue77 Y rfl rfl rfl rfl rfl) ?_;rintro _ _ ⟨g2,rfl,rfl⟩;refine Zv (BJ (vs:=[(0,_),(1,_)]) (cs:=#[_,_]) Y (AZ (pl:=#[(0,1),(1,1)]) zeroValue73 underlying73 (fun _=>by kernel_rfl) rfl)) ?_;refine Zv (BJ (vs:=[(0,_),(1,_),(2,_)]) (cs:=#[_,_,_]) Y (Ch zeroValue75 underlying75 sizeOf3 rfl)) ?_;refine Zv (BJ (vs:=[(1,I4 7),(4,.bool true),(5,.agg #[I4 11,I4 0,I4 0])]) (cs:=#[I4 0,I4 7,.bool false,I4 0,I4 0,I4 0,.bool true,I4 11,I4 0,I4 0]) Y (AZ (pl:=#[(0,1),(1,1),(2,1),(3,3),(6,1),(7,3)]) zeroValue77 underlying77 (fun _=>by kernel_rfl) (by kernel_rfl))) ?_;refine Ze (Ae (vs:=[_]) (cs:=[_,_,_,_,_,_,_,_,_,_]) underlying71 sizeOf77 zeroValue77 Y rfl rfl rfl rfl rfl) ?_;rintro _ _ ⟨g3,rfl,rfl⟩;refine Zv (BJ (vs:=[(0,_),(1,_)]) (cs:=#[_,_]) Y (AZ (pl:=#[(0,1),(1,1)]) zeroValue73 underlying73 (fun _=>by kernel_rfl) rfl)) ?_
 refine Ze (Ae (vs:=[_,_,_]) (cs:=[_,_,_,_,_,_]) underlying28 sizeOf73 zeroValue73 Y rfl rfl rfl rfl rfl) ?_;rintro _ _ ⟨g0,rfl,rfl⟩;refine Za Y<|Z0<|Zn [0] ?_;refine Zx<|A9 ?_;refine AC rfl results42 Y (by exact ⟨g1,g2,g3,g0,rfl,rfl⟩)
structure rV(l:List Bp):Prop where
 ok:DU l
 len:l.length=3
 one:∃x,Dp l 1 2 exQ=some x∧x.res.val=1∧x.since=1∧x.until_=2
 two:∃y,Dp l 1 3 exQ=some y∧y.res.val=2∧y.since=3∧y.until_=3
 third:Ew exQ 1 (Ee (Bh (l.take 1)) exQ) (Et l 2 l.length)=none
theorem Uf{M:List AR}{g:Nat}{T:TypeId}{z:Nat×Nat}{cur:Array Value}{c:Chg}(hm:(g,Obj.cells cur T z)∈M)(hs:10≤cur.size)(he:cur.extract 0 10=#[I4 c.t,I4 c.k,.bool c.had,I4 c.o.a,I4 c.o.b,I4 c.o.c,.bool c.has,I4 c.n.a,I4 c.n.b,I4 c.n.c]):Db M (I6 g [c].length 1) [c]:=⟨_,_,rfl,by show 1≤maxLen;decide,fun i x hx=>by
 match i,hx with
 |0,hx=>injection hx with hx;subst hx;exact ⟨g,0,cur,T,z,rfl,hm,by omega,by simpa using he⟩
 |i+1,hx=>simp at hx⟩
theorem eH:CK Tryz.prog 42 #[] [] (fun r H'=>∃(l:List Bp) (p:Option Addr) (cap:Nat) (M:List AR),rV l∧Dv M (.slice p l.length cap) l∧r= .slice p l.length cap∧H'=[M]):=by
 refine ET WZ rfl ?_;rintro r H' ⟨g1,g2,g3,g0,rfl,rfl⟩;obtain ⟨h1,h2⟩:=kE (some ⟨g1,0,none⟩) (some ⟨g2,0,none⟩) (some ⟨g3,0,none⟩);refine ⟨_,⟨exL (some ⟨g1,0,none⟩) (some ⟨g2,0,none⟩) (some ⟨g3,0,none⟩),some ⟨g0,0,none⟩,3,[(g1,.cells #[I4 0,I4 5,.bool false,I4 0,I4 0,I4 0,.bool true,I4 10,I4 0,I4 0] 77 (0,0)),(g2,.cells #[I4 0,I4 6,.bool false,I4 0,I4 0,I4 0,.bool true,I4 99,I4 0,I4 0] 77 (0,0)),(g3,.cells #[I4 0,I4 7,.bool false,I4 0,I4 0,I4 0,.bool true,I4 11,I4 0,I4 0] 77 (0,0)),(g0,.cells #[I4 1,I6 g1 1 1,I4 2,I6 g2 1 1,I4 3,I6 g3 1 1] 73 (0,0))],⟨YN _ _ _,rfl,h1,h2,kD _ _ _⟩,⟨_,_,rfl,⟨by show 3≤maxLen;decide,su _⟩,fun i r hr=>?_⟩,rfl,rfl⟩,by simp⟩
 match i,hr with
 |0,hr=>injection hr with hr;subst hr;exact ⟨Uf (g:=g1) (c:=exC 5 10) (.head _) (by decide) rfl,g0,0,_,_,_,rfl,.tail _ (.tail _ (.tail _ (.head _))),wH rfl,rfl⟩
 |1,hr=>injection hr with hr;subst hr;exact ⟨Uf (g:=g2) (c:=exC 6 99) (.tail _ (.head _)) (by decide) rfl,g0,0,_,_,_,rfl,.tail _ (.tail _ (.tail _ (.head _))),wH rfl,rfl⟩
 |2,hr=>injection hr with hr;subst hr;exact ⟨Uf (g:=g3) (c:=exC 7 11) (.tail _ (.tail _ (.head _))) (by decide) rfl,g0,0,_,_,_,rfl,.tail _ (.tail _ (.tail _ (.head _))),wH rfl,rfl⟩
 |i+3,hr=>simp [exL]at hr
theorem Oy{l:List Bp}(hl:DU l)(h20:l.length≤20){a b:Nat}(hab:a≤b)(hb:b≤l.length){q:QM}(hq:BN q){x:Mc}(h:Dp l a b q=some x):(∀y∈x.ranges,y.small)∧x.ranges.length≤1000000∧(-1000000000000≤x.base∧x.base≤1000000000000)∧(∀r∈x.recs,r.cs.length≤1000)∧Fh x.q x.ranges=some (Dh (Bh (l.take a)) q):=by
 obtain ⟨hs,hn⟩:=hl.rows a (by omega);have hscan:=Fa hl h20 (by omega:a≤l.length) q
 have hst:=FH hs hn (hl.rowsOk a (by omega)) hq hscan;have hm:=Lb (Bh (l.take a)) q
 obtain ⟨e,_⟩:=Fu hl h20 hab hb hq h;rw [e];exact ⟨Vx hs hn q,by show(Ee _ _).length≤_;omega,by show _≤(a:Int)∧(a:Int)≤_;omega,Kl hl a b,hst⟩
theorem ja{v:Value}{l:List Bp}{n:Nat}{s:List AR}(h:BX 3 67 v n (Gm (Kw l n)) s)(hn:0<n):∃g cap cur z,v=I6 g n cap∧s=[(g,.cells cur 67 z)]∧∀i,i<n→0+i*3+3≤cur.size∧cur.extract (0+i*3) (0+i*3+3)=#[I4 (EQ l i).p,.string (str (EQ l i).ch),.string (str (EQ l i).st)]:=by
 obtain ⟨g,cap,cur,z,rfl,rfl,_,_⟩:=Dc h hn;refine ⟨g,cap,cur,z,rfl,rfl,fun i hi=>?_⟩;obtain ⟨g',cap',cur',z',hv,hs,hsz,hex⟩:=HV h i hi;injection hs with hs
 injection hs with hs1 hs2
 injection hs2 with hs2 hs3 hs4
 subst hs2;rw [u6];refine ⟨hsz,vT.1 ?_⟩;rw [hex];exact GM (fun h:Cq=>[I4 h.p,.string (str h.ch),.string (str h.st)]) 3 (fun _=>rfl) (Kw l n) i (EQ l i) (by unfold Kw;rw [tO,xI hi];rfl)
theorem mE{A M:List AR}{x y:KU}(hx:x.ok (A++M))(hy:y.ok (A++M)):Au Tryz.prog 28 #[.agg #[I4 x.a.q.kd,I4 x.a.q.tb,I4 x.a.q.cl,I4 x.a.q.lo,I4 x.a.q.hi,I4 x.a.q.bq,I4 x.a.q.ot,.slice x.rp x.a.res.rows.length x.rc,I4 x.a.res.val,.bool x.a.res.fnd,I4 x.a.since,I4 x.a.until_,I4 x.a.base,.slice x.gp x.a.ranges.length x.gc,.slice x.cp x.a.recs.length x.cc],.agg #[I4 y.a.q.kd,I4 y.a.q.tb,I4 y.a.q.cl,I4 y.a.q.lo,I4 y.a.q.hi,I4 y.a.q.bq,I4 y.a.q.ot,.slice y.rp y.a.res.rows.length y.rc,I4 y.a.res.val,.bool y.a.res.fnd,I4 y.a.since,I4 y.a.until_,I4 y.a.base,.slice y.gp y.a.ranges.length y.gc,.slice y.cp y.a.recs.length y.cc]] [A,M] (.bool (decide (x.a.eqv y.a))):=by
 refine ET (ME hx hy) (by simp) ?_;rintro r H' ⟨rfl,rfl⟩;exact ⟨_,⟨rfl,rfl⟩,by simp⟩
theorem mD{A B M:List AR}{x y:KU}(hx:x.ok (A++M))(hy:y.ok (B++M)):Au Tryz.prog 28 #[.agg #[I4 x.a.q.kd,I4 x.a.q.tb,I4 x.a.q.cl,I4 x.a.q.lo,I4 x.a.q.hi,I4 x.a.q.bq,I4 x.a.q.ot,.slice x.rp x.a.res.rows.length x.rc,I4 x.a.res.val,.bool x.a.res.fnd,I4 x.a.since,I4 x.a.until_,I4 x.a.base,.slice x.gp x.a.ranges.length x.gc,.slice x.cp x.a.recs.length x.cc],.agg #[I4 y.a.q.kd,I4 y.a.q.tb,I4 y.a.q.cl,I4 y.a.q.lo,I4 y.a.q.hi,I4 y.a.q.bq,I4 y.a.q.ot,.slice y.rp y.a.res.rows.length y.rc,I4 y.a.res.val,.bool y.a.res.fnd,I4 y.a.since,I4 y.a.until_,I4 y.a.base,.slice y.gp y.a.ranges.length y.gc,.slice y.cp y.a.recs.length y.cc]] [A,B,M] (.bool (decide (x.a.eqv y.a))):=by
 refine ET (ME (hx.mono (M':=A++(B++M)) (fun c hc=>by rcases tT.1 hc with h9|h9;exact uE _ h9;exact tN _ (tN _ h9))) (hy.mono (fun c hc=>tN A hc))) (by simp) ?_;rintro r H' ⟨rfl,rfl⟩;exact ⟨_,⟨rfl,rfl⟩,by simp⟩
theorem fA:¬BN ⟨0,0,0,0,0,0,0⟩:=by decide
end Go.Proofs.YtkdgffcfmgmemaaGreatDoor
