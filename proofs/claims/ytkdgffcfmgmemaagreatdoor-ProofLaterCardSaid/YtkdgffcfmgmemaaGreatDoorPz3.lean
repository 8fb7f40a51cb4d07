/- The helpers of the laws of chapter 11. -/
/- log, positions, built. -/
/- What is built on a log, in plain words; the example of chapter 11. -/
/- The example of chapter 11; sane. -/
import Derived.Test.YtkdgffcfmgmemaaGreatDoorEz
import Derived.Test.YtkdgffcfmgmemaaGreatDoorEx31
import Derived.Test.YtkdgffcfmgmemaaGreatDoorPy7
import Derived.Test.YtkdgffcfmgmemaaGreatDoorPy8
import Derived.Test.YtkdgffcfmgmemaaGreatDoorPf2
set_option linter.unusedVariables false
set_option linter.unusedSimpArgs false
namespace Go.Proofs.YtkdgffcfmgmemaaGreatDoor
open Go.Proofs.Tryz
open Go Go.RowKit Gw
set_option maxRecDepth 100000
attribute [local irreducible] Gw.At Gw.Nx Gw.Ops
theorem H8{z:Int}(k:Int)(hk:1≤k)(h1:-9223372036854775808≤z)(h2:z≤9223372036854775807):-9223372036854775808≤z.tdiv k∧z.tdiv k≤9223372036854775807:=by
 have h:=Int.natAbs_tdiv_le_natAbs z k;rcases zM z 0 with hz|hz
 · have:z.tdiv k≤0:=by
    obtain ⟨y,rfl⟩:∃y,z=-y:=⟨-z,by omega⟩;rw [Int.neg_tdiv];have:=Int.tdiv_nonneg (a:=y) (b:=k) (by omega) (by omega)
    omega
   omega
 · have:=Int.tdiv_nonneg hz (show(0:Int)≤k by omega)
   omega
theorem LJ{kd tb cl lo hi bq ot:Int}(h:(0≤tb∧tb≤3)∧(0≤cl∧cl≤3)∧(-1000000000≤lo∧lo≤hi∧hi≤1000000000)∧
 ((kd=1∧cl=0∧lo=hi∧(1≤lo∧lo≤1000000)∧bq=0∧ot=0)∨((kd=2∨kd=3)∧bq=0∧ot=0)∨
  ((kd=4∨kd=5∨kd=6)∧(1≤bq∧bq≤3)∧ot=0)∨(kd=7∧(1≤bq∧bq≤3)∧(0≤ot∧ot≤3)))):BN ⟨kd,tb,cl,lo,hi,bq,ot⟩:=h
theorem kL{g o c sz a:Nat}(h:a<c):ET (some ⟨g,o,none⟩) a c sz=some ⟨g,o+a*sz,none⟩:=by
 unfold ET;rw [if_neg (by omega),vO,CW]
theorem N9{M:List AR}{p:Option Addr}{cap a b:Nat}{l:List Bo}(h:Dw M (.slice p l.length cap) l)(hab:a≤b)(hb:b≤l.length):Dw M (.slice (ET p a cap 2) (b -a) (cap -a)) ((l.drop a).take (b -a)):=by
 obtain ⟨p',cap',e,⟨hl,hlc⟩,hg⟩:=h;injection e with e1 e2 e3
 subst e1 e3;have e4:((l.drop a).take (b -a)).length=b -a:=by rw [su,tC];omega
 refine ⟨_,_,by rw [e4],⟨by omega,by omega⟩,fun i x hx=>?_⟩;rw [uT]at hx;split at hx
 · rw [ui]at hx
   obtain ⟨h1,g,off,cur,T,zz,rfl,hm,hsz,hex⟩:=hg (a+i) x hx;rw [kL (by omega)];exact ⟨h1,g,_,cur,T,zz,rfl,hm,by omega,by rw [show off+a*2+i*2=off+(a+i)*2 by omega];exact hex⟩
 · cases hx
theorem iK(rs:List AP)(c:Chg):(EH rs c).length≤rs.length+1:=by
 unfold EH MO;simp only [si,su,tC];split<;>simp only [tH,uz]<;>omega
theorem QI:∀(cs:List Chg) (rs:List AP),(DF rs cs).length≤rs.length+cs.length
 |[],_=>tJ _
 |c::cs,rs=>by
  have h1:=QI cs (EH rs c);have h2:=iK rs c
  rw [tL];exact xW h1 (by omega)
theorem DR.few{l:List Bo}(h:DR l):∀i,i≤l.length→(Bb (l.take i)).length≤3*i
 |0,_=>by rw [ug];exact tJ _
 |i+1,hi=>by
  obtain ⟨r,hr⟩:∃r,l[i]?=some r:=⟨_,sV (by omega)⟩;rw [Bp hr,FK];have h1:=QI r.cs (Bb (l.take i))
  have h2:=DR.few h i (by omega);have h3:=(h i r hr).2
  omega
theorem rT{M:List AR}{q:Option Addr}{cap:Nat}{l:List Bo}(hRI:Dw M (.slice q l.length cap) l)(hlog:DR l)(hl:l.length≤1000000)(k:Nat)(hk:k≤l.length):CK Tryz.prog 13 #[.slice q l.length cap,I4 (k:Int)] [M] (fun r H'=>∃v s,r= .tuple #[v,I4 0]∧PQ v (k:Int) (Bb (l.take k)) s∧H'=[s,M]):=by
 refine EK (qL q cap l M hRI hlog hl k hk) rfl ?_;rintro r H' ⟨sp,mm,es,ck,lm,rfl,hm,hR,rfl⟩;obtain ⟨hs,hn⟩:=hlog.rows k hk;exact ⟨_,⟨_,_,rfl,⟨sp,mm,es,ck,lm,rfl,hm,hR,hs,hn,rfl⟩,rfl⟩,by simp⟩
theorem Na{E M:List AR}(q:QM)(te base:Int)(hb:-1000000000000≤base∧base≤1000000000000){pg:Option Addr}{cg:Nat}{L:List RP}(hL:Gr (E++M) (.slice pg L.length cg) L)(hLl:L.length≤1000000){r:CL}(hr:Fa q L=some r){lv:Value}{l:List Bo}(hl:Dw (E++M) lv l)(hcs:∀x∈l,x.cs.length≤1000):CK Tryz.prog 18 #[.agg #[I4 q.kd,I4 q.tb,I4 q.cl,I4 q.lo,I4 q.hi,I4 q.bq,I4 q.ot,I4 te,I4 base,.slice pg L.length cg],lv] [E,M] (fun w H'=>∃(z:KT) (s:List AR) (b:Bool),((b=true∧Ew q base L l=some z.a∧z.ok (s++E++M))∨(b=false∧Ew q base L l=none))∧w= .tuple #[.agg #[I4 z.a.q.kd,I4 z.a.q.tb,I4 z.a.q.cl,I4 z.a.q.lo,I4 z.a.q.hi,I4 z.a.q.bq,I4 z.a.q.ot,.slice z.rp z.a.res.rows.length z.rc,I4 z.a.res.val,.bool z.a.res.fnd,I4 z.a.since,I4 z.a.until_,I4 z.a.base,.slice z.gp z.a.ranges.length z.gc,.slice z.cp z.a.recs.length z.cc],.bool b]∧H'=[s,E,M]):=by
 refine EK (aN q te base hb hL hLl hr hl hcs) (by simp) ?_;rintro w H' ⟨z,s,b,h1,rfl,rfl⟩;exact ⟨_,⟨z,s,b,by simpa only [tF]using h1,rfl,rfl⟩,by simp⟩
theorem NZ{E M:List AR}(base until_:Cr){z:KT}(hz:z.ok (E++M))(hs:∀x∈z.a.ranges,x.small)(hrl:z.a.ranges.length≤1000000)(hb:-1000000000000≤z.a.base∧z.a.base≤1000000000000)(hcs:∀x∈z.a.recs,x.cs.length≤1000){r:CL}(hr:Fa z.a.q z.a.ranges=some r)(Tg:TypeId)(zg:Nat×Nat):Au Tryz.prog 26 #[.agg #[I4 base.p,.string (str base.ch),.string (str base.st)],.agg #[I4 until_.p,.string (str until_.ch),.string (str until_.st)],.agg #[I4 z.a.q.kd,I4 z.a.q.tb,I4 z.a.q.cl,I4 z.a.q.lo,I4 z.a.q.hi,I4 z.a.q.bq,I4 z.a.q.ot,.slice z.rp z.a.res.rows.length z.rc,I4 z.a.res.val,.bool z.a.res.fnd,I4 z.a.since,I4 z.a.until_,I4 z.a.base,.slice z.gp z.a.ranges.length z.gc,.slice z.cp z.a.recs.length z.cc]] [[(1,.cells (Cw.map Bn).toArray Tg zg)],E,M] (.bool (decide (IG base until_ z.a))):=by
 refine EK (nP base until_ hz hs hrl hb hcs hr Tg zg) (by simp) ?_;rintro r H' ⟨rfl,rfl⟩;exact ⟨_,⟨rfl,rfl⟩,by simp⟩
def DV(l:List Bo)(a b:Nat):List Bo:=(l.drop a).take (b -a)
theorem LZ{l:List Bo}{a b:Nat}(hb:b≤l.length):(DV l a b).length=b -a:=by unfold DV;rw [su,tC];omega
theorem Vo{l:List Bo}{a b k:Nat}{x:Bo}(h:(DV l a b)[k]?=some x):l[a+k]?=some x∧k<b -a:=by
 unfold DV at h;rw [uT]at h;split at h
 · rename_i h9;rw [ui]at h;exact ⟨h,h9⟩
 · cases h
theorem Kk{l:List Bo}(h:DR l)(a b:Nat):∀x∈DV l a b,x.cs.length≤1000:=fun x hx=>by
 obtain ⟨k,hk⟩:=uP hx;have:=(h _ x (Vo hk).1).2
 omega
theorem Ff{l:List Bo}(h:DR l)(hl:l.length≤20){k:Nat}(hk:k≤l.length)(q:QM):(CZ (Bb (l.take k)) q).length≤100:=by
 have h1:=h.few k hk;have h2:=(@QF (Bb (l.take k)) q.tb q.cl.toNat q.lo q.hi).1
 unfold CZ;omega
theorem Ld(rs:List AP)(q:QM):(EM rs q).length≤1+(CZ rs q).length:=by
 unfold EM;split
 · rw [tL,sZ];omega
 · simp
noncomputable def DX(l:List Bo)(a b:Nat)(q:QM):Option Ll:=Ew q (a:Int) (EM (Bb (l.take a)) q) (DV l a b)
theorem Xh(c:Int)(n:Nat)(hn:0<n)(hn2:n≤1000000)(h1:-9223372036854775808≤c)(h2:c≤9223372036854775807):Au Tryz.prog 32 #[I4 c,I4 (n:Int)] [] (I4 (C9 c n:Int)):=by
 refine Se func32 ntmps32 [0,1] ?_;intro u R;refine Zq<|Zg<|Za Y<|Z0<|Zx<|Zq<|Zq<|Zg<|Zm Y<|Zv (Ed Y Y)<|Z0<|Zx ?_;refine Ao Y (fun hc1=>?_) (fun hc1=>?_)
 ·
  refine Zg<|Zm Y<|Yi Y Y ?_
  (refine BM (TH Y (IntWalk.i64_in _ ?_)) ?_;(focus (omega)))
  refine Za Y<|Z0<|Zx<|Zq<|Zg<|Zm Y<|Zm Y ?_
  (refine BM (TF Y Y ?_ rfl) ?_;(focus (omega)))
  refine Za Y<|Z0<|Zx<|A9 ?_;refine AB rfl results32 Y (by exact ⟨by rw [←NE];simp [*],rfl⟩)
 refine AC<|Zx<|Zq<|Zg<|Zm Y<|Zm Y ?_
 (refine BM (TF Y Y ?_ rfl) ?_;(focus (omega)))
 refine Za Y<|Z0<|Zx<|A9 ?_;refine AB rfl results32 Y (by exact ⟨by rw [←NE];simp [*],rfl⟩)
theorem KW(c:Int)(n:Nat)(hn:0<n)(hn2:n≤1000000)(h1:-9223372036854775808≤c)(h2:c≤9223372036854775807):Au Tryz.prog 106 #[I4 c,I4 (n:Int)] [] (I4 (C9 c n:Int)):=by
 refine Se func106 ntmps106 [0,1] ?_;intro u R;refine Zq<|Zg<|Za Y<|Z0<|Zx<|Zq<|Zq<|Zg<|Zm Y<|Zv (Ed Y Y)<|Z0<|Zx ?_;refine Ao Y (fun hc1=>?_) (fun hc1=>?_)
 ·
  refine Zg<|Zm Y<|Yi Y Y ?_
  (refine BM (TH Y (IntWalk.i64_in _ ?_)) ?_;(focus (omega)))
  refine Za Y<|Z0<|Zx<|Zq<|Zg<|Zm Y<|Zm Y ?_
  (refine BM (TF Y Y ?_ rfl) ?_;(focus (omega)))
  refine Za Y<|Z0<|Zx<|A9 ?_;refine AB rfl results106 Y (by exact ⟨by rw [←NE];simp [*],rfl⟩)
 refine AC<|Zx<|Zq<|Zg<|Zm Y<|Zm Y ?_
 (refine BM (TF Y Y ?_ rfl) ?_;(focus (omega)))
 refine Za Y<|Z0<|Zx<|A9 ?_;refine AB rfl results106 Y (by exact ⟨by rw [←NE];simp [*],rfl⟩)
set_option maxHeartbeats 1000000 in
theorem om(q0 q1 q2 q3 q4:Int)(hq01:-9223372036854775808≤q0)(hq02:q0≤9223372036854775807)(hq11:-9223372036854775808≤q1)(hq12:q1≤9223372036854775807)(hq21:-9223372036854775808≤q2)(hq22:q2≤9223372036854775807)(hq31:-9223372036854775808≤q3)(hq32:q3≤9223372036854775807)(hq41:-9223372036854775808≤q4)(hq42:q4≤9223372036854775807):CK Tryz.prog 45 #[.agg #[I4 q0,I4 q1,I4 q2,I4 q3,I4 q4]] [] (fun r H'=>∃q:QM,BN q∧r= .agg #[I4 q.kd,I4 q.tb,I4 q.cl,I4 q.lo,I4 q.hi,I4 q.bq,I4 q.ot]∧H'=[]):=by
 have htq07:=H8 7 (by decide) hq01 hq02;have hpq07:=F4 (q0.tdiv 7) 3 (by decide)
 have htq19:=H8 9 (by decide) hq11 hq12;have hpq19:=F4 (q1.tdiv 9) 4 (by decide)
 have htq43:=H8 3 (by decide) hq41 hq42;have hpq43:=F4 (q4.tdiv 3) 3 (by decide)
 have htq49:=H8 9 (by decide) hq41 hq42;have hpq49:=F4 (q4.tdiv 9) 3 (by decide)
 have hpq0:=F4 q0 7 (by decide);have hpq1:=F4 q1 9 (by decide)
 have hpq2:=F4 q2 14 (by decide);have hpq3:=F4 q3 14 (by decide)
 have hpq4:=F4 q4 3 (by decide);refine Se func45 ntmps45 [0] ?_;intro u R;refine Zq<|Zg<|Ze (Bx #[_,_,_,_,_]) ?_;rintro _ _ ⟨bx,rfl,rfl⟩;refine Ze (Al zeroValue30 #[_,_,_,_,_,_,_]) ?_;rintro _ _ ⟨br,rfl,rfl⟩;refine Z0<|Zx<|Zb [1,2] ?_;refine CV (e0:=[]) (H0:=[]) (fun e H=>∃(bq:Nat),(True)∧e=[(3,I5 bq)]∧H=[[(bq,.cells #[I4 ((1+C9 q0 7:Nat):Int),I4 (C9 (q0.tdiv 7) 3:Int),I4 0,I4 0,I4 0,I4 0,I4 0] 30 (0,0))]]) Wp ?hx_1 ?hy_1
 case hx_1=>
  refine BK (n:=11) (0::1::3::7::0::16::48::119::255::0::1023::[]) 1668 (by kernel_rfl) (by kernel_rfl) rfl ?_;refine Zi 1 0 rfl (BG (j:=0) underlying23 sizeOf3 Y Y (by first|omega|decide|(simp;done))) ?_;refine Zj 3 1 rfl isAgg3 Y ?_;refine Zi 19 4 rfl (BG (j:=0) underlying23 sizeOf3 Y Y (by first|omega|decide|(simp;done))) ?_;refine Zj 51 5 rfl isAgg3 Y ?_;refine Zi 115 6 rfl (TG (m:=q0) (n:=7) Y Y (by decide) (IntWalk.i64_in _ (by have:=H8 7 (by decide) hq01 hq02;omega))) ?_;refine Zz (l:=[2,9]) ?_;refine Zy 3 119 [5,1] [true,false] [(5,(_,_))] rfl Y rfl rfl rfl rfl (Zu [_,_] Y call106 Y rfl (KW q0 7 (by decide) (by decide) hq01 hq02)) ?hk_2 (fun _ _ h=>h.elim) ?hl_2
  case hk_2=>
   rintro _ _ ⟨rfl,rfl⟩;refine ⟨Zk (Ad),?_⟩;refine Zi 127 3 rfl (D7 (m:=1) Y Y (by omega)) ?_;refine Zz (l:=[7,9]) ?_;refine Zy 119 255 [5] [false] [] rfl Y rfl rfl rfl rfl (Zu [_,_] Y call106 Y rfl (KW (q0.tdiv 7) 3 (by decide) (by decide) htq07.1 htq07.2)) ?hk_3 (fun _ _ h=>h.elim) ?hl_3
   case hk_3=>
    rintro _ _ ⟨rfl,rfl⟩;refine ⟨Ad,?_⟩;refine Zi 511 8 rfl (BJ (vs:=[(0,I4 ((1+C9 q0 7:Nat):Int)),(1,I4 (C9 (q0.tdiv 7) 3:Int))]) (cs:=#[I4 ((1+C9 q0 7:Nat):Int),I4 (C9 (q0.tdiv 7) 3:Int),I4 0,I4 0,I4 0,I4 0,I4 0]) Y (AX (pl:=#[(0,1),(1,1),(2,1),(3,1),(4,1),(5,1),(6,1)]) zeroValue30 underlying30 (fun _=>by kernel_rfl) (by kernel_rfl))) ?_;refine Yw 9 1023 rfl (Al zeroValue30 #[_,_,_,_,_,_,_]) ?_;rintro _ _ ⟨bq,rfl,rfl⟩;refine Yw 10 2047 rfl (Xw sizeOf30 #[I4 ((1+C9 q0 7:Nat):Int),I4 (C9 (q0.tdiv 7) 3:Int),I4 0,I4 0,I4 0,I4 0,I4 0]) ?_;rintro _ _ ⟨rfl,rfl⟩;refine Am ?_;refine Zn [3,1,2] ?_;refine BB (e':=[(3,_)]) (by exact ⟨bq,trivial,rfl,rfl⟩)
   refine Zy 0 639 [5] [true] [(5,(_,_))] rfl Y rfl rfl rfl rfl (Al zeroValue30 #[_,_,_,_,_,_,_]) ?hk_7 (fun _ _ h=>h.elim) ?hl_7
   case hk_7=>
    rintro _ _ ⟨bq,rfl,rfl⟩;refine ⟨Zk (Ad),?_⟩;refine Yw 7 767 rfl (Zu [_,_] Y call106 Y rfl (KW (q0.tdiv 7) 3 (by decide) (by decide) htq07.1 htq07.2)) ?_;rintro _ _ ⟨rfl,rfl⟩;refine Zi 1023 8 rfl (BJ (vs:=[(0,I4 ((1+C9 q0 7:Nat):Int)),(1,I4 (C9 (q0.tdiv 7) 3:Int))]) (cs:=#[I4 ((1+C9 q0 7:Nat):Int),I4 (C9 (q0.tdiv 7) 3:Int),I4 0,I4 0,I4 0,I4 0,I4 0]) Y (AX (pl:=#[(0,1),(1,1),(2,1),(3,1),(4,1),(5,1),(6,1)]) zeroValue30 underlying30 (fun _=>by kernel_rfl) (by kernel_rfl))) ?_;refine Yw 10 2047 rfl (Xw sizeOf30 #[I4 ((1+C9 q0 7:Nat):Int),I4 (C9 (q0.tdiv 7) 3:Int),I4 0,I4 0,I4 0,I4 0,I4 0]) ?_;rintro _ _ ⟨rfl,rfl⟩;refine Am ?_;refine Zn [3,1,2] ?_;refine BB (e':=[(3,_)]) (by exact ⟨bq,trivial,rfl,rfl⟩)
   exact Aw
  refine Zy 0 627 [5,1] [true,true] [(5,(_,_)),(1,(_,_))] rfl Y rfl rfl rfl rfl (Al zeroValue30 #[_,_,_,_,_,_,_]) ?hk_11 (fun _ _ h=>h.elim) ?hl_11
  case hk_11=>
   rintro _ _ ⟨bq,rfl,rfl⟩;refine ⟨Zk (Zk (Ad)),?_⟩;refine Yz 2 3 631 [5,1] [true,false] [(5,(_,_))] rfl Y rfl rfl rfl rfl (Zu [_,_] Y call106 Y rfl (KW q0 7 (by decide) (by decide) hq01 hq02)) ?_;rintro _ _ ⟨rfl,rfl⟩;refine ⟨Zk (Ad),?_⟩;refine Zi 639 3 rfl (D7 (m:=1) Y Y (by omega)) ?_;refine Yw 7 767 rfl (Zu [_,_] Y call106 Y rfl (KW (q0.tdiv 7) 3 (by decide) (by decide) htq07.1 htq07.2)) ?_;rintro _ _ ⟨rfl,rfl⟩;refine Zi 1023 8 rfl (BJ (vs:=[(0,I4 ((1+C9 q0 7:Nat):Int)),(1,I4 (C9 (q0.tdiv 7) 3:Int))]) (cs:=#[I4 ((1+C9 q0 7:Nat):Int),I4 (C9 (q0.tdiv 7) 3:Int),I4 0,I4 0,I4 0,I4 0,I4 0]) Y (AX (pl:=#[(0,1),(1,1),(2,1),(3,1),(4,1),(5,1),(6,1)]) zeroValue30 underlying30 (fun _=>by kernel_rfl) (by kernel_rfl))) ?_;refine Yw 10 2047 rfl (Xw sizeOf30 #[I4 ((1+C9 q0 7:Nat):Int),I4 (C9 (q0.tdiv 7) 3:Int),I4 0,I4 0,I4 0,I4 0,I4 0]) ?_;rintro _ _ ⟨rfl,rfl⟩;refine Am ?_;refine Zn [3,1,2] ?_;refine BB (e':=[(3,_)]) (by exact ⟨bq,trivial,rfl,rfl⟩)
  exact Aw
 rintro _ _ ⟨bq,_,rfl,rfl⟩;refine Zq<|Zq<|Zg<|Zh 0 underlying30 rfl rfl sizeOf3 Y<|Zl isAgg3 Y ?_;refine Zv (C8 (n:=1) Y Y)<|Z0<|Zx ?_;refine Ao Y (fun k1=>?_) (fun k1=>?_)
 ·
  refine Zq<|Zg ?_;refine BM (BG (j:=1) underlying23 sizeOf3 Y Y (by first|omega|decide|(simp;done))) ?_;refine Zl isAgg3 Y ?_;refine Xr [_,_] Y call106 Y rfl (KW q1 9 (by decide) (by decide) hq11 hq12) ?_;refine Ya (m:=1) Y Y<|Zh 3 underlying30 rfl rfl sizeOf3 Y<|Xe (Zs sizeOf3 Y Y rfl (hi:=by first|omega|decide|(simp;done))) ?_;refine Z0<|Zx<|Zq<|Zg<|Zh 3 underlying30 rfl rfl sizeOf3 Y<|Zl isAgg3 Y ?_;refine Zh 4 underlying30 rfl rfl sizeOf3 Y<|Xe (Zs sizeOf3 Y Y rfl (hi:=by first|omega|decide|(simp;done))) ?_;refine Z0<|Zn [2,3] ?_;refine Zx<|Zq<|Zg<|Zo Wh (Ab (cs:=#[_,_,_,_,_,_,_]) isAgg30 sizeOf30 Y Wb (by exact Av rfl)) ?_;refine Xe (BO sizeOf30 Y Y (by(simp [Value.oneCell'];done)) Wu (by exact DW rfl) (by first|rfl|(simp;done)) Wb (by exact BQ _)) ?_;refine Z0<|Zx<|A9<|Zt ?_;refine D9 rfl results45 Y Wh (Ag isAgg30 sizeOf30 Wn (Av rfl)) (by exact ⟨⟨((1+C9 q0 7:Nat):Int),(C9 (q0.tdiv 7) 3:Int),0,((1+C9 q1 9:Nat):Int),((1+C9 q1 9:Nat):Int),0,0⟩,LJ (by omega),rfl,rfl⟩)
 refine AC<|Zx<|Zq<|Zg ?_;refine BM (BG (j:=1) underlying23 sizeOf3 Y Y (by first|omega|decide|(simp;done))) ?_;refine Zl isAgg3 Y ?_;refine Zv (TG (m:=q1) (n:=9) Y Y (by decide) (IntWalk.i64_in _ (by have:=H8 9 (by decide) hq11 hq12;omega))) ?_;refine Xr [_,_] Y call106 Y rfl (KW (q1.tdiv 9) 4 (by decide) (by decide) htq19.1 htq19.2) ?_;refine Zh 2 underlying30 rfl rfl sizeOf3 Y<|Xe (Zs sizeOf3 Y Y rfl (hi:=by first|omega|decide|(simp;done))) ?_;refine Z0<|Zx<|Zq<|Zg ?_;refine BM (BG (j:=2) underlying23 sizeOf3 Y Y (by first|omega|decide|(simp;done))) ?_;refine Zl isAgg3 Y ?_;refine Xr [_,_] Y call106 Y rfl (KW q2 14 (by decide) (by decide) hq21 hq22) ?_
 (refine BM (GA Y Y (IntWalk.i64_in _ ?_)) ?_;(focus (omega)))
 refine Zh 3 underlying30 rfl rfl sizeOf3 Y<|Xe (Zs sizeOf3 Y Y rfl (hi:=by first|omega|decide|(simp;done))) ?_;refine Z0<|Zn [1,2,3] ?_;refine Zx<|Zq<|BK (n:=8) (0::1::0::4::12::31::63::127::[]) 144 (by kernel_rfl) (by kernel_rfl) rfl ?_;refine Zi 1 0 rfl (Aa (off:=3) underlying30 rfl rfl sizeOf3 Y)<|Zj 3 1 rfl isAgg3 Y ?_;refine Zi 7 2 rfl (BG (j:=3) underlying23 sizeOf3 Y Y (by first|omega|decide|(simp;done))) ?_;refine Zj 15 3 rfl isAgg3 Y ?_;refine Yz 4 12 31 [3,1] [false,true] [(1,(_,_))] rfl Y rfl rfl rfl rfl (Zu [_,_] Y call106 Y rfl (KW q3 14 (by decide) (by decide) hq31 hq32)) ?_;rintro _ _ ⟨rfl,rfl⟩;refine ⟨Zk (Ad),?_⟩
 (refine EF (D':=63) 5 (JJ Y Y (IntWalk.i64_in _ ?_)) ?_;(focus (omega)))
 refine Zi 127 6 rfl (Aa (off:=4) underlying30 rfl rfl sizeOf3 Y)<|Zz (l:=[7]) ?_;refine Zy 127 255 [1] [false] [] rfl Y rfl rfl rfl rfl (Zs sizeOf3 Y Y rfl (hi:=by first|omega|decide|(simp;done))) ?hk_18 (fun _ _ h=>h.elim) ?hl_18
 case hk_18=>
  rintro _ _ ⟨rfl,rfl⟩;refine ⟨Ad,?_⟩;refine Am ?_;refine Zx<|Zb [1,2,3] ?_;refine CV (e0:=[]) (H0:=[[(bq,.cells #[I4 ((1+C9 q0 7:Nat):Int),I4 (C9 (q0.tdiv 7) 3:Int),I4 (C9 (q1.tdiv 9) 4:Int),I4 ((C9 q2 14:Int) -2),I4 ((C9 q2 14:Int) -2+(C9 q3 14:Int)),I4 0,I4 0] 30 (0,0))]]) (fun e H=>∃(lo hi:Int),(-100≤lo∧lo≤hi∧hi≤100)∧e=[]∧H=[[(bq,.cells #[I4 ((1+C9 q0 7:Nat):Int),I4 (C9 (q0.tdiv 7) 3:Int),I4 (C9 (q1.tdiv 9) 4:Int),I4 lo,I4 hi,I4 0,I4 0] 30 (0,0))]]) Wp ?hx_19 ?hy_19
  case hx_19=>
   refine Zq<|Zg<|Zh 2 underlying30 rfl rfl sizeOf3 Y<|Zl isAgg3 Y ?_;refine Zv (C8 (n:=3) Y Y)<|Z0<|Zx ?_;refine Ao Y (fun k2=>?_) (fun k2=>?_)
   ·
    refine Zq<|Zg<|Zh 3 underlying30 rfl rfl sizeOf3 Y<|Zl isAgg3 Y ?_
    (refine BM (ZM Y Y (IntWalk.i64_in _ ?_)) ?_;(focus (omega)))
    (refine BM (GA Y Y (IntWalk.i64_in _ ?_)) ?_;(focus (omega)))
    refine Zh 3 underlying30 rfl rfl sizeOf3 Y<|Xe (Zs sizeOf3 Y Y rfl (hi:=by first|omega|decide|(simp;done))) ?_;refine Z0<|Zx<|Zg<|Zh 4 underlying30 rfl rfl sizeOf3 Y<|Zl isAgg3 Y ?_
    (refine BM (ZM Y Y (IntWalk.i64_in _ ?_)) ?_;(focus (omega)))
    (refine BM (GA Y Y (IntWalk.i64_in _ ?_)) ?_;(focus (omega)))
    refine Zh 4 underlying30 rfl rfl sizeOf3 Y<|Xe (Zs sizeOf3 Y Y rfl (hi:=by first|omega|decide|(simp;done))) ?_;refine Z0<|Zn [1,2,3] ?_;refine BB (e':=[]) (by(have h9:C9 (q1.tdiv 9) 4=3:=k2;exact ⟨((C9 q2 14:Int) -2)*3 -20,((C9 q2 14:Int) -2+(C9 q3 14:Int))*3 -20,⟨by omega,by omega,by omega⟩,rfl,rfl⟩))
   refine AC<|Zn [1,2,3] ?_;refine BB (e':=[]) (by exact ⟨(C9 q2 14:Int) -2,(C9 q2 14:Int) -2+(C9 q3 14:Int),⟨by omega,by omega,by omega⟩,rfl,rfl⟩)
  rintro _ _ ⟨lo,hi,⟨hlo,hlh,hhi⟩,rfl,rfl⟩;refine Zb [1,2,3] ?_;refine CV (e0:=[]) (H0:=[[(bq,.cells #[I4 ((1+C9 q0 7:Nat):Int),I4 (C9 (q0.tdiv 7) 3:Int),I4 (C9 (q1.tdiv 9) 4:Int),I4 lo,I4 hi,I4 0,I4 0] 30 (0,0))]]) (fun e H=>∃(b9:Int),((3≤C9 q0 7∧1≤b9∧b9≤3)∨(C9 q0 7<3∧b9=0))∧e=[]∧H=[[(bq,.cells #[I4 ((1+C9 q0 7:Nat):Int),I4 (C9 (q0.tdiv 7) 3:Int),I4 (C9 (q1.tdiv 9) 4:Int),I4 lo,I4 hi,I4 b9,I4 0] 30 (0,0))]]) Wp ?hx_22 ?hy_22
  case hx_22=>
   refine Zq<|Zg<|Zh 0 underlying30 rfl rfl sizeOf3 Y<|Zl isAgg3 Y ?_;refine Zv (FV (n:=4) Y Y)<|Z0<|Zx ?_;refine Ao Y (fun k3=>?_) (fun k3=>?_)
   ·
    refine Zg ?_;refine BM (BG (j:=4) underlying23 sizeOf3 Y Y (by first|omega|decide|(simp;done))) ?_;refine Zl isAgg3 Y ?_;refine Xr [_,_] Y call106 Y rfl (KW q4 3 (by decide) (by decide) hq41 hq42) ?_;refine Ya (m:=1) Y Y<|Zh 5 underlying30 rfl rfl sizeOf3 Y<|Xe (Zs sizeOf3 Y Y rfl (hi:=by first|omega|decide|(simp;done))) ?_;refine Z0<|Zn [1,2,3] ?_;refine BB (e':=[]) (by exact ⟨((1+C9 q4 3:Nat):Int),.inl ⟨by omega,by omega,by omega⟩,rfl,rfl⟩)
   refine AC<|Zn [1,2,3] ?_;refine BB (e':=[]) (by exact ⟨0,.inr ⟨by omega,rfl⟩,rfl,rfl⟩)
  rintro _ _ ⟨b9,hb9,rfl,rfl⟩;refine Zb [1,2,3] ?_;refine CV (e0:=[(1,_)]) (H0:=[[(bq,.cells #[I4 ((1+C9 q0 7:Nat):Int),I4 (C9 (q0.tdiv 7) 3:Int),I4 (C9 (q1.tdiv 9) 4:Int),I4 lo,I4 hi,I4 b9,I4 0] 30 (0,0))]]) (fun e H=>∃(b8 o8:Int),(BN ⟨((1+C9 q0 7:Nat):Int),(C9 (q0.tdiv 7) 3:Int),(C9 (q1.tdiv 9) 4:Int),lo,hi,b8,o8⟩)∧e=[]∧H=[[(bq,.cells #[I4 ((1+C9 q0 7:Nat):Int),I4 (C9 (q0.tdiv 7) 3:Int),I4 (C9 (q1.tdiv 9) 4:Int),I4 lo,I4 hi,I4 b8,I4 o8] 30 (0,0))]]) Wp ?hx_25 ?hy_25
  case hx_25=>
   refine Zq<|Zg<|Zh 0 underlying30 rfl rfl sizeOf3 Y<|Zl isAgg3 Y ?_;refine Zv (C8 (n:=7) Y Y)<|Z0<|Zx ?_;refine Ao Y (fun k4=>?_) (fun k4=>?_)
   ·
    refine Zq<|Zg ?_;refine BM (BG (j:=4) underlying23 sizeOf3 Y Y (by first|omega|decide|(simp;done))) ?_;refine Zl isAgg3 Y ?_;refine Zv (TG (m:=q4) (n:=3) Y Y (by decide) (IntWalk.i64_in _ (by have:=H8 3 (by decide) hq41 hq42;omega))) ?_;refine Xr [_,_] Y call106 Y rfl (KW (q4.tdiv 3) 3 (by decide) (by decide) htq43.1 htq43.2) ?_;refine Zh 6 underlying30 rfl rfl sizeOf3 Y<|Xe (Zs sizeOf3 Y Y rfl (hi:=by first|omega|decide|(simp;done))) ?_;refine Z0<|Zx<|Zq<|Zg ?_;refine BM (BG (j:=4) underlying23 sizeOf3 Y Y (by first|omega|decide|(simp;done))) ?_;refine Zl isAgg3 Y ?_;refine Zv (TG (m:=q4) (n:=9) Y Y (by decide) (IntWalk.i64_in _ (by have:=H8 9 (by decide) hq41 hq42;omega))) ?_;refine Xr [_,_] Y call106 Y rfl (KW (q4.tdiv 9) 3 (by decide) (by decide) htq49.1 htq49.2) ?_;refine Zv (DK (n:=0) Y Y)<|Z0<|Zn [2,3,75] ?_;refine Zx ?_;refine Ao Y (fun k5=>?_) (fun k5=>?_)
    ·
     refine Zg<|Zh 5 underlying30 rfl rfl sizeOf3 Y<|Xe (Zs sizeOf3 Y Y rfl (hi:=by first|omega|decide|(simp;done))) ?_;refine Z0<|Zn [2,3] ?_;refine BB (e':=[]) (by(have h9:0<C9 (q4.tdiv 9) 3:=k5;exact ⟨2,(C9 (q4.tdiv 3) 3:Int),LJ (by omega),rfl,rfl⟩))
    refine AC<|Zn [2,3] ?_;refine BB (e':=[]) (by(have h9:1+C9 q0 7=7:=k4;exact ⟨b9,(C9 (q4.tdiv 3) 3:Int),LJ (by omega),rfl,rfl⟩))
   refine AC<|Zn [2,3] ?_;refine BB (e':=[]) (by exact ⟨b9,0,LJ (by omega),rfl,rfl⟩)
  rintro _ _ ⟨b8,o8,hv,rfl,rfl⟩;refine Zq<|Zg<|Zo Wh (Ab (cs:=#[_,_,_,_,_,_,_]) isAgg30 sizeOf30 Y Wb (by exact Av rfl)) ?_;refine Xe (BO sizeOf30 Y Y (by(simp [Value.oneCell'];done)) Wu (by exact DW rfl) (by first|rfl|(simp;done)) Wb (by exact BQ _)) ?_;refine Z0<|Zx<|A9 ?_;refine D9 rfl results45 Y Wh (Ag isAgg30 sizeOf30 Wn (Av rfl)) (by exact ⟨⟨_,_,_,_,_,_,_⟩,hv,rfl,rfl⟩)
 exact Aw
theorem qf{M:List AR}{v:Value}{xs:List (List Int)}(hX:Nh M v xs):CK Tryz.prog 44 #[v] [M] (fun r H'=>∃(l:List Bo) (s:List AR),DR l∧l.length≤20∧Dw s r l∧H'=[s,M]):=by
 have hml:=mL;obtain ⟨py,capy,rfl,hyl,hgy⟩:=id hX;have hX2:=gP hX (min xs.length 20) (Nat.min_le_left _ _)
 have hyk:(xs.take (min xs.length 20)).length≤20:=by rw [su];omega
 refine Se func44 ntmps44 [0] ?_;intro u R;refine Zq<|Zg<|Za Y<|Z0<|Zx<|Zq<|Zg<|Zm Y<|Zm Y<|Zv (AU underlying22 Y)<|Zv (OD (n:=20) Y Y) ?_;refine BM (Bh underlying22 sizeOf217 Y Y (by first|omega|(simp;omega))) ?_;refine Zc [_] Y call105 Y rfl (ol hX2 (by omega)) ?_;rintro _ _ ⟨_,⟨l,sl,hlog,hll,hRI,rfl⟩,rfl⟩;refine Za Y<|Z0<|Zx<|A9 ?_;refine AB rfl results44 Y (by exact ⟨l,sl,hlog,by omega,hRI,rfl⟩)
set_option maxHeartbeats 1000000 in
theorem Vi{M:List AR}{v:Value}{xs:List (List Int)}(hX:Nh M v xs)(q0 q1 q2 q3 q4 cb cu:Int)(hq01:-9223372036854775808≤q0)(hq02:q0≤9223372036854775807)(hq11:-9223372036854775808≤q1)(hq12:q1≤9223372036854775807)(hq21:-9223372036854775808≤q2)(hq22:q2≤9223372036854775807)(hq31:-9223372036854775808≤q3)(hq32:q3≤9223372036854775807)(hq41:-9223372036854775808≤q4)(hq42:q4≤9223372036854775807)(hcb1:-9223372036854775808≤cb)(hcb2:cb≤9223372036854775807)(hcu1:-9223372036854775808≤cu)(hcu2:cu≤9223372036854775807)(tw:Value):CK Tryz.prog 12 #[.agg #[v,I4 q0,I4 q1,I4 q2,I4 q3,I4 q4,I4 cb,I4 cu,tw]] [M] (fun r H'=>∃(l:List Bo) (p:Option Addr) (cap:Nat) (s:List AR) (q:QM) (a b:Nat),DR l∧l.length≤20∧Dw s (.slice p l.length cap) l∧BN q∧a≤b∧b≤l.length∧r= .tuple #[.slice p l.length cap,.agg #[I4 q.kd,I4 q.tb,I4 q.cl,I4 q.lo,I4 q.hi,I4 q.bq,I4 q.ot],I4 (a:Int),I4 (b:Int)]∧H'=[s,M]):=by
 have hml:=mL;obtain ⟨py,capy,rfl,hyl,hgy⟩:=id hX;refine Se func12 ntmps12 [0] ?_;intro u R;refine Zq<|Zg<|Ze (Bx #[.slice py xs.length capy,I4 q0,I4 q1,I4 q2,I4 q3,I4 q4,I4 cb,I4 cu,tw]) ?_;rintro _ _ ⟨bc,rfl,rfl⟩;refine Za Y<|Ze (Al zeroValue30 #[_,_,_,_,_,_,_]) ?_;rintro _ _ ⟨bq,rfl,rfl⟩;refine Za Y<|Za Y<|Z0<|Zx<|Zq<|Zg<|Zh 0 underlying26 rfl rfl sizeOf22 Y<|Zl isAgg22 Y ?_;refine Zc [_] Y call44 Y rfl (qf hX) ?_;rintro _ _ ⟨_,⟨l,sl,hlog,hll,hRI,rfl⟩,rfl⟩;obtain ⟨pl,cl,rfl,hl1,hl2⟩:=id hRI;refine Za Y<|Z0<|Zx<|Zq<|Zg<|Zh 6 underlying26 rfl rfl sizeOf3 Y<|Zl isAgg3 Y ?_;refine Zm Y<|Zv (AU underlying28 Y)<|Ya (n:=1) Y Y<|Xr [_,_] Y call32 Y rfl (Xh cb (l.length+1) (by omega) (by omega) hcb1 hcb2) ?_;obtain ⟨a,ha⟩:∃a,a=C9 cb (l.length+1):=⟨_,rfl⟩;rw [←ha];have hal:=F4 cb (l.length+1) (by omega)
 rw [←ha]at hal;refine Za Y<|Z0<|Zn [1,3,6,7] ?_;refine Zx<|Zq<|BK (n:=19) (0::0::2::6::0::0::0::64::0::256::0::1792::3840::8142::16366::16335::49103::114655::262143::[]) 73736 (by kernel_rfl) (by kernel_rfl) rfl ?_;refine Zi 1 0 rfl (AJ Y)<|Zi 3 1 rfl (Aa (off:=1) underlying26 rfl rfl sizeOf23 Y)<|DY (D':=7) 2 rfl rfl rfl Wh (Pa #[_,_,_,_,_] isAgg23 sizeOf23 Y) ?_;refine Zi 23 4 rfl (AJ Y)<|Zi 55 5 rfl (AJ Y)<|Zi 119 6 rfl (Aa (off:=7) underlying26 rfl rfl sizeOf3 Y)<|Zj 247 7 rfl isAgg3 Y ?_;refine Zi 503 8 rfl (AJ Y)<|Zi 1015 9 rfl (AU underlying28 Y)<|Zi 2039 10 rfl (AJ Y) ?_
 (refine EF (D':=4087) 11 (Bg Y Y ?_ ?_) ?_;(focus (omega));(focus (omega)))
 refine Zi 8183 12 rfl (D7 (n:=1) Y Y (by omega)) ?_;refine Zz (l:=[3]) ?_;refine Zy 6 8191 [7,2] [true,false] [(7,(_,_))] rfl Y rfl rfl rfl rfl (Zw [_] Y call45 Y rfl (om q0 q1 q2 q3 q4 hq01 hq02 hq11 hq12 hq21 hq22 hq31 hq32 hq41 hq42)) ?hk_1 DD ?hl_1
 case hk_1=>
  rintro _ _ ⟨_,⟨q,hq,rfl,rfl⟩,rfl⟩;refine ⟨Zk (Ad),?_⟩;refine Yw 13 16383 rfl (Zu [_,_] Y call32 Y rfl (Xh cu (l.length -a+1) (by omega) (by omega) hcu1 hcu2)) ?_;rintro _ _ ⟨rfl,rfl⟩;obtain ⟨d,hd⟩:∃d,d=C9 cu (l.length -a+1):=⟨_,rfl⟩;rw [←hd];have hdl:=F4 cu (l.length -a+1) (by omega)
  rw [←hd]at hdl;refine Zi 32767 14 rfl (D7 Y Y (by omega)) ?_;refine Zi 65535 15 rfl (BA Y)<|Zz (l:=[16]) ?_;refine Zy 49103 131071 [] [] [] rfl Y rfl rfl rfl rfl (BO sizeOf30 Y Y (by(simp [Value.oneCell'];done)) Wu (by exact DW rfl) (by first|rfl|(simp;done)) Wb (by exact BQ _)) ?hk_3 (fun _ _ h=>h.elim) ?hl_3
  case hk_3=>
   rintro _ _ ⟨rfl,rfl⟩;refine ⟨Ad,?_⟩;refine Zi 262143 17 rfl (BA Y)<|Zi 524287 18 rfl (BA Y)<|Am ?_;refine Zn [2,3,4,5] ?_;refine Zx<|A9 ?_;refine Y2 rfl results12 Y Y Wh (Ag isAgg30 sizeOf30 Wn (Av rfl)) Y Y (by exact ⟨l,pl,cl,sl,q,a,a+d,hlog,hll,hRI,hq,by omega,by omega,rfl,rfl⟩)
  exact Aw
 exact Aw
set_option maxHeartbeats 2000000 in
theorem fA{M:List AR}{p:Option Addr}{cap:Nat}{l:List Bo}(hRI:Dw M (.slice p l.length cap) l)(hlog:DR l)(hll:l.length≤20)(a b:Nat)(hab:a≤b)(hb:b≤l.length)(q:QM)(hq:BN q)(Tg:TypeId)(zg:Nat×Nat):CK Tryz.prog 29 #[.slice p l.length cap,I4 (a:Int),I4 (b:Int),.agg #[I4 q.kd,I4 q.tb,I4 q.cl,I4 q.lo,I4 q.hi,I4 q.bq,I4 q.ot]] [[(1,.cells (Cw.map Bn).toArray Tg zg)],M] (fun w H'=>∃(z:KT) (s mem:List AR) (t:Bool) (pg:Option Addr) (cg:Nat),((t=true∧DX l a b q=some z.a∧z.ok (s++mem++M))∨(t=false∧DX l a b q=none))∧Gr mem (.slice pg (EM (Bb (l.take a)) q).length cg) (EM (Bb (l.take a)) q)∧w= .tuple #[.agg #[I4 q.kd,I4 q.tb,I4 q.cl,I4 q.lo,I4 q.hi,I4 q.bq,I4 q.ot,I4 0,I4 (a:Int),.slice pg (EM (Bb (l.take a)) q).length cg],.agg #[I4 z.a.q.kd,I4 z.a.q.tb,I4 z.a.q.cl,I4 z.a.q.lo,I4 z.a.q.hi,I4 z.a.q.bq,I4 z.a.q.ot,.slice z.rp z.a.res.rows.length z.rc,I4 z.a.res.val,.bool z.a.res.fnd,I4 z.a.since,I4 z.a.until_,I4 z.a.base,.slice z.gp z.a.ranges.length z.gc,.slice z.cp z.a.recs.length z.cc],.bool t]∧H'=[s,mem,[(1,.cells (Cw.map Bn).toArray Tg zg)],M]):=by
 have hml:=mL;obtain ⟨p9,cap9,e9,⟨hl1,hl2⟩,_⟩:=id hRI;injection e9 with e91 e92 e93
 subst e91 e93;obtain ⟨hs,hn⟩:=hlog.rows a (by omega);have hok:=hlog.rowsOk a (by omega)
 have hscan:=Ff hlog hll (by omega:a≤l.length) q;have hst:=FJ hs hn hok hq hscan
 have hmk:=Ld (Bb (l.take a)) q;obtain ⟨L,hL⟩:∃L,L=EM (Bb (l.take a)) q:=⟨_,rfl⟩;have hbt:DX l a b q=Ew q (a:Int) L (DV l a b):=by unfold DX;rw [←hL]
 rw [←hL]at hst hmk⊢;refine Se func29 ntmps29 [0,1,2,3] ?_;intro u R;refine Zq<|Zg<|Ze (Bx #[I4 q.kd,I4 q.tb,I4 q.cl,I4 q.lo,I4 q.hi,I4 q.bq,I4 q.ot]) ?_;rintro _ _ ⟨bq,rfl,rfl⟩;refine Ze (Al zeroValue57 #[_,_,_,_,_,_,_,_,_,_]) ?_;rintro _ _ ⟨be,rfl,rfl⟩;refine Ze (Al zeroValue53 #[_,_,_,_,_,_,_,_,_,_,_,_,_,_,_]) ?_;rintro _ _ ⟨ba,rfl,rfl⟩;refine Za Y<|Z0<|Zx<|Zq<|Zg<|Zm Y<|Zm Y<|Zc [_,_] Y call13 Y rfl (rT hRI hlog (by omega) a (by omega)) ?_;rintro _ _ ⟨_,⟨vs,ss,rfl,hS,rfl⟩,rfl⟩;refine Zm Y<|Zd Y rfl<|Zd Y rfl<|Za Y<|Za Y<|Z0<|Zx<|Zq<|Zq<|Zg<|Zm Y<|Zv (Dy (n:=0) Y Y)<|Z0<|Zn [0,1,2,7,8,9,11,25] ?_;refine Zx ?_;refine Ao Y (fun hb0=>?_) (fun hb0=>?_)
 ·
  exact absurd rfl hb0
 refine AC<|Zx<|Zq<|Zg<|Zm Y<|Zo Wh (Ab (cs:=#[_,_,_,_,_,_,_]) isAgg30 sizeOf30 Y Wb (by exact Av rfl)) ?_;refine Zc [_,_] Y call15 Y rfl (pE _ _ _ _ hS hs hn hok q hq hscan Tg zg) ?_;rintro _ _ ⟨_,⟨vo,mem,rfl,hRP,rfl⟩,rfl⟩;rw [←hL]at hRP;obtain ⟨pg,cg,rfl,hg1,hg2⟩:=hRP.form;refine Zm Y<|Zd Y rfl<|Zd Y rfl<|Za Y<|Za Y<|Z0<|Zx<|Zq<|Zg<|Zo Wh (Ab (cs:=#[_,_,_,_,_,_,_]) isAgg30 sizeOf30 Y Wb (by exact Av rfl)) ?_;refine Zm Y<|Zm Y<|Zv (BJ (vs:=[(0,.agg #[I4 q.kd,I4 q.tb,I4 q.cl,I4 q.lo,I4 q.hi,I4 q.bq,I4 q.ot]),(2,I4 (a:Int)),(3,.slice pg L.length cg)]) (cs:=#[I4 q.kd,I4 q.tb,I4 q.cl,I4 q.lo,I4 q.hi,I4 q.bq,I4 q.ot,I4 0,I4 (a:Int),.slice pg L.length cg]) Y (AX (pl:=#[(0,7),(7,1),(8,1),(9,1)]) zeroValue57 underlying57 (fun _=>by kernel_rfl) (by kernel_rfl))) ?_;refine Ze (Al zeroValue57 #[_,_,_,_,_,_,_,_,_,_]) ?_;rintro _ _ ⟨bx,rfl,rfl⟩;refine Xe (Xw sizeOf57 #[I4 q.kd,I4 q.tb,I4 q.cl,I4 q.lo,I4 q.hi,I4 q.bq,I4 q.ot,I4 0,I4 (a:Int),.slice pg L.length cg]) ?_;refine Z0<|Zn [0,1,2,8,9,14,15] ?_;refine Zx<|Zb [0,1,2,8,9,14,15] ?_;refine CV (e0:=[(0,_),(1,_),(2,_)]) (H0:=[mem,M]) (fun e H=>∃(z:KT) (s:List AR) (t:Bool) (bz:Nat),((t=true∧Ew q (a:Int) L (DV l a b)=some z.a∧z.ok (s++mem++M))∨(t=false∧Ew q (a:Int) L (DV l a b)=none))∧e=[(16,I5 bz),(17,.bool t)]∧H=[[(bz,.cells #[I4 z.a.q.kd,I4 z.a.q.tb,I4 z.a.q.cl,I4 z.a.q.lo,I4 z.a.q.hi,I4 z.a.q.bq,I4 z.a.q.ot,.slice z.rp z.a.res.rows.length z.rc,I4 z.a.res.val,.bool z.a.res.fnd,I4 z.a.since,I4 z.a.until_,I4 z.a.base,.slice z.gp z.a.ranges.length z.gc,.slice z.cp z.a.recs.length z.cc] 53 (0,0))],s,mem,M]) Wp ?hx_1 ?hy_1
 case hx_1=>
  refine BK (n:=12) (0::0::0::0::14::31::63::127::127::0::767::2047::[]) 1568 (by kernel_rfl) (by kernel_rfl) rfl ?_;refine DY (D':=1) 0 rfl rfl rfl Wh (Ab (cs:=#[I4 q.kd,I4 q.tb,I4 q.cl,I4 q.lo,I4 q.hi,I4 q.bq,I4 q.ot,I4 0,I4 (a:Int),.slice pg L.length cg]) isAgg57 sizeOf57 Y (by exact tJ _) (by exact Av rfl)) ?_;refine Zi 3 1 rfl (AJ Y)<|Zi 7 2 rfl (AJ Y)<|Zi 15 3 rfl (AJ Y) ?_
  (refine EF (D':=31) 4 (Lu underlying28 sizeOf73 Y Y Y ?_ ?_) ?_;(focus (omega));(focus (omega)))
  refine Zz (l:=[5,9]) ?_;refine Zy 31 63 [0] [false] [] rfl Y rfl rfl rfl rfl (Zw [_,_] Y call18 Y rfl (Na q 0 (a:Int) (by omega) (hRP.mono (fun c hc=>uG M hc)) (by omega) hst (G9 (N9 hRI hab hb) (fun c hc=>tQ mem hc)) (Kk hlog a b))) ?hk_2 DD ?hl_2
  case hk_2=>
   rintro _ _ ⟨_,⟨z,s,t,hz,rfl,rfl⟩,rfl⟩;refine ⟨Ad,?_⟩;refine Zi 127 6 rfl (AJ Y)<|Zi 255 7 rfl (Cc Y rfl)<|Zi 511 8 rfl (Cc Y rfl)<|Zz (l:=[9]) ?_;refine Zy 0 1023 [] [] [] rfl Y rfl rfl rfl rfl (Al zeroValue53 #[_,_,_,_,_,_,_,_,_,_,_,_,_,_,_]) ?hk_3 (fun _ _ h=>h.elim) ?hl_3
   case hk_3=>
    rintro _ _ ⟨bz,rfl,rfl⟩;refine ⟨Ad,?_⟩;refine Yw 10 2047 rfl (Xw sizeOf53 #[I4 z.a.q.kd,I4 z.a.q.tb,I4 z.a.q.cl,I4 z.a.q.lo,I4 z.a.q.hi,I4 z.a.q.bq,I4 z.a.q.ot,.slice z.rp z.a.res.rows.length z.rc,I4 z.a.res.val,.bool z.a.res.fnd,I4 z.a.since,I4 z.a.until_,I4 z.a.base,.slice z.gp z.a.ranges.length z.gc,.slice z.cp z.a.recs.length z.cc]) ?_;rintro _ _ ⟨rfl,rfl⟩;refine Zi 4095 11 rfl (BA Y)<|Am ?_;refine Zn [16,17,8,9,14,15] ?_;refine BB (e':=[(16,_),(17,_)]) (by exact ⟨z,s,t,bz,hz,rfl,rfl⟩)
   exact Aw
  refine Zy 0 543 [0] [true] [(0,(_,_))] rfl Y rfl rfl rfl rfl (Al zeroValue53 #[_,_,_,_,_,_,_,_,_,_,_,_,_,_,_]) ?hk_6 (fun _ _ h=>h.elim) ?hl_6
  case hk_6=>
   rintro _ _ ⟨bz,rfl,rfl⟩;refine ⟨Zk (Ad),?_⟩;refine Zz (l:=[5]) ?_;refine Zy 31 575 [0] [false] [] rfl Y rfl rfl rfl rfl (Zw [_,_] Y call18 Y rfl (Na q 0 (a:Int) (by omega) (hRP.mono (fun c hc=>uG M hc)) (by omega) hst (G9 (N9 hRI hab hb) (fun c hc=>tQ mem hc)) (Kk hlog a b))) ?hk_7 DD ?hl_7
   case hk_7=>
    rintro _ _ ⟨_,⟨z,s,t,hz,rfl,rfl⟩,rfl⟩;refine ⟨Ad,?_⟩;refine Zi 639 6 rfl (AJ Y)<|Zi 767 7 rfl (Cc Y rfl)<|Zi 1023 8 rfl (Cc Y rfl)<|Zz (l:=[10]) ?_;refine Zy 767 2047 [] [] [] rfl Y rfl rfl rfl rfl (Xw sizeOf53 #[I4 z.a.q.kd,I4 z.a.q.tb,I4 z.a.q.cl,I4 z.a.q.lo,I4 z.a.q.hi,I4 z.a.q.bq,I4 z.a.q.ot,.slice z.rp z.a.res.rows.length z.rc,I4 z.a.res.val,.bool z.a.res.fnd,I4 z.a.since,I4 z.a.until_,I4 z.a.base,.slice z.gp z.a.ranges.length z.gc,.slice z.cp z.a.recs.length z.cc]) ?hk_8 (fun _ _ h=>h.elim) ?hl_8
    case hk_8=>
     rintro _ _ ⟨rfl,rfl⟩;refine ⟨Ad,?_⟩;refine Zi 4095 11 rfl (BA Y)<|Am ?_;refine Zn [16,17,8,9,14,15] ?_;refine BB (e':=[(16,_),(17,_)]) (by exact ⟨z,s,t,bz,hz,rfl,rfl⟩)
    exact Aw
   exact Aw
  exact Aw
 rintro _ _ ⟨z,s,t,bz,hz,rfl,rfl⟩;refine Zq<|BK (n:=10) (0::0::0::4::12::28::60::29::159::511::[]) 384 (by kernel_rfl) (by kernel_rfl) rfl ?_;refine DY (D':=1) 0 rfl rfl rfl Wh (Ab (cs:=#[_,_,_,_,_,_,_,_,_,_]) isAgg57 sizeOf57 Y Wb (by exact Av rfl)) ?_;refine DY (D':=3) 1 rfl rfl rfl Wh (Ab (cs:=#[_,_,_,_,_,_,_,_,_,_,_,_,_,_,_]) isAgg53 sizeOf53 Y Wb (by exact Av rfl)) ?_;refine Zi 7 2 rfl (AJ Y)<|Zi 15 3 rfl (C8 (n:=0) Y Y)<|Zi 31 4 rfl (AJ Y) ?_;refine CQ (t:=51) Y (fun hb2=>?_) (fun hb2=>?_)
 ·
  first|rw [decide_eq_true hb2]|rw [hb2]|skip
  refine Ah (D':=63) 5 Y rfl rfl rfl (AJ Y) ?_;refine Zi 127 6 rfl (AL Y Y)<|Zz (l:=[7]) ?_;refine Zy 29 255 [1,0] [true,false] [(1,(_,_))] rfl Y rfl rfl rfl rfl (BO sizeOf57 Y Y (by(simp [Value.oneCell'];done)) Wu (by exact DW rfl) (by first|rfl|(simp;done)) Wb (by exact BQ _)) ?hk_10 (fun _ _ h=>h.elim) ?hl_10
  case hk_10=>
   rintro _ _ ⟨rfl,rfl⟩;refine ⟨Zk (Ad),?_⟩;refine Yw 8 511 rfl (BO sizeOf53 Y Y (by(simp [Value.oneCell'];done)) Wu (by exact DW rfl) (by first|rfl|(simp;done)) Wb (by exact BQ _)) ?_;rintro _ _ ⟨rfl,rfl⟩;refine Zi 1023 9 rfl (BA Y)<|Am ?_;refine Zx<|A9 ?_;refine dB rfl results29 Y Y Y Wh Wh (Ag isAgg57 sizeOf57 Wn (Av rfl)) (Ag isAgg53 sizeOf53 Wn (Av rfl)) (by exact ⟨z,s,mem,t,pg,cg,by rw [hbt];exact hz,hRP,rfl,rfl⟩)
  exact Aw
 first|rw [decide_eq_false hb2]|rw [hb2]|skip
 exact absurd rfl hb2
theorem PZ{M:List AR}{p:Option Addr}{cap:Nat}{l:List Bo}(hRI:Dw M (.slice p l.length cap) l)(hlog:DR l)(hll:l.length≤20)(a b:Nat)(hab:a≤b)(hb:b≤l.length)(q:QM)(hq:BN q)(Tg:TypeId)(zg:Nat×Nat):CK Tryz.prog 29 #[.slice p l.length cap,I4 (a:Int),I4 (b:Int),.agg #[I4 q.kd,I4 q.tb,I4 q.cl,I4 q.lo,I4 q.hi,I4 q.bq,I4 q.ot]] [[(1,.cells (Cw.map Bn).toArray Tg zg)],M] (fun w H'=>∃(z:KT) (E:List AR) (t:Bool) (pg:Option Addr) (cg:Nat),((t=true∧DX l a b q=some z.a∧z.ok (E++M))∨(t=false∧DX l a b q=none))∧Gr (E++M) (.slice pg (EM (Bb (l.take a)) q).length cg) (EM (Bb (l.take a)) q)∧w= .tuple #[.agg #[I4 q.kd,I4 q.tb,I4 q.cl,I4 q.lo,I4 q.hi,I4 q.bq,I4 q.ot,I4 0,I4 (a:Int),.slice pg (EM (Bb (l.take a)) q).length cg],.agg #[I4 z.a.q.kd,I4 z.a.q.tb,I4 z.a.q.cl,I4 z.a.q.lo,I4 z.a.q.hi,I4 z.a.q.bq,I4 z.a.q.ot,.slice z.rp z.a.res.rows.length z.rc,I4 z.a.res.val,.bool z.a.res.fnd,I4 z.a.since,I4 z.a.until_,I4 z.a.base,.slice z.gp z.a.ranges.length z.gc,.slice z.cp z.a.recs.length z.cc],.bool t]∧H'=[E,[(1,.cells (Cw.map Bn).toArray Tg zg)],M]):=by
 refine EK (fA hRI hlog hll a b hab hb q hq Tg zg) rfl ?_;rintro w H' ⟨z,s,mem,t,pg,cg,h1,h2,rfl,rfl⟩;exact ⟨_,⟨z,s++mem,t,pg,cg,h1,h2.mono (fun c hc=>uG _ (tQ _ hc)),rfl,rfl⟩,by simp⟩
theorem az{q:QM}{l:List Bo}{a b:Nat}{st st2:CL×Int}(h:Ez q (a:Int) 0 st (DV l a b)=some st2):Ez q (a:Int) 0 st ((l.drop a).take (b -a))=some st2:=h
theorem FN{l:List Bo}(hl:DR l)(h20:l.length≤20){a b:Nat}(hab:a≤b)(hb:b≤l.length){q:QM}(hq:BN q){x:Ll}(h:DX l a b q=some x):x=⟨q,Cz (Bb (l.take b)) q,x.since,(b:Int),(a:Int),EM (Bb (l.take a)) q,DV l a b⟩∧OZ q l a (b -a) x.since:=by
 obtain ⟨hs,hn⟩:=hl.rows a (by omega);have hst:=FJ hs hn (hl.rowsOk a (by omega)) hq (Ff hl h20 (by omega) q)
 have hpl:=LZ (l:=l) (a:=a) hb;unfold DX at h;rw [Gq hst (by omega)]at h;cases hr:Ez q (a:Int) 0 (Cz (Bb (l.take a)) q,(a:Int)) (DV l a b)with
 |none=>rw [hr]at h;cases h
 |some st=>
  rw [hr]at h;injection h with h
  obtain ⟨e1,e2⟩:=LU hq hl (by omega:a≤l.length) (b -a) (by omega) st (az hr);rw [show a+(b -a)=b by omega]at e1;subst h;refine ⟨?_,e2⟩;simp only [hpl,e1];congr 1;omega
theorem mU{l:List Bo}(hl:DR l){a b:Nat}(hb:b≤l.length)(hll:l.length≤20):∀(k:Nat) (x:Bo),(DV l a b)[k]?=some x→(a:Int)≤9223372036854775806 -((0+k:Nat):Int)∧x.p=(a:Int)+1+((0+k:Nat):Int):=fun k x hk=>by
 obtain ⟨h1,h2⟩:=Vo hk;have h3:x.p=((a+k:Nat):Int)+1:=(hl _ x h1).1.pos
 have h4:=(sW.1 h1).1;exact ⟨by omega,by rw [h3];push_cast;omega⟩
theorem P9{l:List Bo}(hl:DR l)(h20:l.length≤20){a b:Nat}(hab:a≤b)(hb:b≤l.length){q:QM}(hq:BN q)(hk:1≤q.kd∧q.kd≤4):DX l a b q≠none:=by
 obtain ⟨hs,hn⟩:=hl.rows a (by omega);have hst:=FJ hs hn (hl.rowsOk a (by omega)) hq (Ff hl h20 (by omega) q)
 have hpl:=LZ (l:=l) (a:=a) hb;obtain ⟨st,hst2⟩:=Q6 hk (DV l a b) 0 (Cz (Bb (l.take a)) q,(a:Int)) (mU hl hb h20);unfold DX;rw [Gq hst (by omega),hst2];exact fun h=>by cases h
theorem Vz{rs:List AP}(hs:BI rs)(hn:rs.length≤2000)(q:QM):∀x∈EM rs q,x.small:=fun x hx=>by
 unfold EM at hx;rcases u7.1 hx with rfl|hx
 · exact ⟨Om hs hn _ _ _ _,Oo hs hn _ _ _ _⟩
 · split at hx
   · obtain ⟨r,_,rfl⟩:=uW.1 hx
     exact ⟨Om hs hn _ _ _ _,Oo hs hn _ _ _ _⟩
   · cases hx
theorem dH{rs:List AP}(hs:BI rs)(hn:rs.length≤2000)(hok:∀r∈rs,r.ok){q:QM}(hq:BN q):∀x∈EM rs q,Ng (Db rs) x:=fun x hx=>by
 have h1:=hq.1;have h2:=hq.2.1
 have h3:=hq.2.2.1.2.1;have h4:0≤q.ot∧q.ot≤3:=by have:=hq.2.2.2;omega
 unfold EM at hx;rcases u7.1 hx with rfl|hx
 · exact SF hs hn hok _ _ (by omega) (by omega) _ _ h3
 · split at hx
   · obtain ⟨r,_,rfl⟩:=uW.1 hx
     exact SF hs hn hok _ _ (by omega) (by omega) _ _ (zU _)
   · cases hx
theorem Ph{l:List Bo}(hl:DR l)(h9:l.length≤9000){st:Bs}(hst:st.length=32){a:Nat}:∀k,a+k≤l.length→∃h,II st (EQ l a) ((l.drop a).take k)=some h∧h.p=((a+k:Nat):Int)∧h.ch=(EQ l (a+k)).ch∧h.ok∧(k=0→h=EQ l a)∧(0<k→h.st=st)
 |0,hk=>by
  obtain ⟨h1,h2,_⟩:=J3 hl h9 a (by omega);exact ⟨EQ l a,by rw [ug];rfl,h2,rfl,h1,fun _=>rfl,fun h=>by omega⟩
 |k+1,hk=>by
  obtain ⟨h,e1,e2,e3,e4,_,_⟩:=Ph hl h9 hst (a:=a) k (by omega);obtain ⟨r,hr⟩:∃r,l[a+k]?=some r:=⟨_,sV (by omega)⟩;have hr2:(l.drop a)[k]?=some r:=by rw [ui];exact hr
  obtain ⟨ha,_⟩:=hl _ r hr;have hp:r.p=((a+k:Nat):Int)+1:=ha.pos
  have hnx:FQ h r st:=⟨ha.ok,e4,hst,by rw [e2];exact hp⟩;refine ⟨GH h r st,by rw [M8 e1 hr2,if_pos hnx],by show r.p=_;rw [hp];rfl,?_,⟨⟨by show 0≤r.p;omega,by show r.p≤10000;omega⟩,Ox _ _,hst⟩,fun h=>by omega,fun _=>rfl⟩;show Mc h.ch _=_
  rw [e3,show a+(k+1)=a+k+1 by omega,KC hr];rfl
theorem WT{l:List Bo}(hl:DR l)(h9:l.length≤9000){a b:Nat}(hab:a≤b)(hb:b≤l.length):J7 (EQ l a) (DV l a b) (EQ l b):=by
 obtain ⟨h1,_,_⟩:=J3 hl h9 a (by omega);obtain ⟨h2,h3,h4⟩:=J3 hl h9 b hb;obtain ⟨h,e1,e2,e3,e4,e5,e6⟩:=Ph hl h9 h2.2.2 (a:=a) (b -a) (by omega);refine ⟨h1,h2,?_⟩;unfold DV;rw [e1];rcases vC (b -a)with h0|h0
 · rw [e5 h0,show a=b by omega]
 · rw [show a+(b -a)=b by omega]at e2 e3
   exact congrArg some (aD.2 ⟨by rw [e2,h3],e3,e6 h0⟩)
theorem WU{l:List Bo}(hl:DR l)(h9:l.length≤9000){a b:Nat}(hab:a≤b)(hb:b≤l.length){u:Cr}(h:J7 (EQ l a) (DV l a b) u):u.p=(b:Int):=by
 obtain ⟨w,e1,e2,_⟩:=Ph hl h9 h.2.1.2.2 (a:=a) (b -a) (by omega);have h3:=h.2.2
 unfold DV at h3;rw [e1]at h3;injection h3 with h3
 rw [←h3,e2];congr 1;omega
theorem Ll.eqv_refl(a:Ll):a.eqv a:=⟨rfl,rfl,rfl,rfl,rfl,rfl,rfl⟩
theorem PE{l:List Bo}(hl:DR l)(h20:l.length≤20){a b:Nat}(hab:a≤b)(hb:b≤l.length){q:QM}(hq:BN q){x:Ll}(h:DX l a b q=some x):IG (EQ l a) (EQ l b) x:=by
 obtain ⟨hs,hn⟩:=hl.rows a (by omega);obtain ⟨e,_⟩:=FN hl h20 hab hb hq h;have h2:=(J3 hl (by omega) b hb).2.1
 obtain ⟨_,h1,hst⟩:=J3 hl (by omega) a (by omega);unfold DX at h;have hx:x.q=q∧x.base=(a:Int)∧x.ranges=EM (Bb (l.take a)) q∧x.recs=DV l a b∧x.until_=(b:Int):=by rw [e];exact ⟨rfl,rfl,rfl,rfl,rfl⟩
 refine ⟨by rw [h1,hx.2.1],by rw [h2,hx.2.2.2.2],by rw [hx.2.2.2.1];exact WT hl (by omega) hab hb,fun y hy=>?_,x,by rw [hx.1,hx.2.1,hx.2.2.1,hx.2.2.2.1];exact h,x.eqv_refl⟩;rw [hst];exact dH hs hn (hl.rowsOk a (by omega)) hq y (by rw [←hx.2.2.1];exact hy)
theorem YX{l:List Bo}(hl:DR l)(h20:l.length≤20){a b:Nat}(hab:a≤b)(hb:b≤l.length){q:QM}(hq:BN q){x y:Ll}(h:DX l a b q=some x)(hy:y.q=x.q∧y.base=x.base∧y.ranges=x.ranges∧y.recs=x.recs){u:Cr}:IG (EQ l a) u y→y.eqv x∧u.p=y.until_∧u.p=(b:Int):=fun hc=>by
 obtain ⟨e,_⟩:=FN hl h20 hab hb hq h;have hx:x.q=q∧x.base=(a:Int)∧x.ranges=EM (Bb (l.take a)) q∧x.recs=DV l a b:=by rw [e];exact ⟨rfl,rfl,rfl,rfl⟩
 obtain ⟨_,h2,h3,_,z,h5,h6⟩:=hc;rw [hy.1,hy.2.1,hy.2.2.1,hy.2.2.2,hx.1,hx.2.1,hx.2.2.1,hx.2.2.2]at h5;unfold DX at h;rw [h]at h5;injection h5 with h5
 subst h5;rw [hy.2.2.2,hx.2.2.2]at h3;exact ⟨h6,h2,WU hl (by omega) hab hb h3⟩
def exC(k n:Int):Chg:=⟨0,k,false,⟨0,0,0⟩,true,⟨n,0,0⟩⟩
def exL(p1 p2 p3:Option Addr):List Bo:=[⟨1,p1,1,[exC 5 10]⟩,⟨2,p2,1,[exC 6 99]⟩,⟨3,p3,1,[exC 7 11]⟩]
def exQ:QM:=⟨3,0,1,10,19,0,0⟩
theorem Fv:BN exQ:=by decide
theorem ow{p k n:Int}(hp:1≤p∧p≤10000)(h:(exC k n).ok):EU p [exC k n]:=⟨hp,⟨tJ _,by show 1≤8;decide⟩,fun i c hc=>by
 match i,hc with
 |0,hc=>injection hc with hc;rw [←hc];exact h
 |i+1,hc=>simp at hc,fun i b c hb hc=>by simp at hc⟩
def exR:Nat→List AP
 |0=>[]
 |1=>[⟨0,5,⟨10,0,0⟩⟩]
 |2=>[⟨0,5,⟨10,0,0⟩⟩,⟨0,6,⟨99,0,0⟩⟩]
 |_=>[⟨0,5,⟨10,0,0⟩⟩,⟨0,6,⟨99,0,0⟩⟩,⟨0,7,⟨11,0,0⟩⟩]
theorem aI(p1 p2 p3:Option Addr):Bb ((exL p1 p2 p3).take 0)=exR 0∧Bb ((exL p1 p2 p3).take 1)=exR 1∧Bb ((exL p1 p2 p3).take 2)=exR 2∧Bb ((exL p1 p2 p3).take 3)=exR 3:=⟨rfl,by kernel_rfl,by kernel_rfl,by kernel_rfl⟩
theorem YP{rs:List AP}{p k n:Int}(hp:1≤p+1∧p+1≤10000)(h:(exC k n).ok)(hf:Fb rs (exC k n))(hz:GK rs [exC k n]≤2000):M7 rs p (p+1) [exC k n]:=⟨ow hp h,rfl,fun c hc=>by rw [tO.1 hc];exact hf,hz⟩
theorem YQ(p1 p2 p3:Option Addr):DR (exL p1 p2 p3):=fun i r hr=>by
 obtain ⟨h0,h1,h2,_⟩:=aI p1 p2 p3
 match i,hr with
 |0,hr=>injection hr with hr;subst hr;rw [h0];exact ⟨YP (p:=0) (by decide) (by decide) (by unfold Fb;decide) (by decide),by show 1≤3;decide⟩
 |1,hr=>injection hr with hr;subst hr;rw [h1];exact ⟨YP (p:=1) (by decide) (by decide) (by unfold Fb;decide) (by decide),by show 1≤3;decide⟩
 |2,hr=>injection hr with hr;subst hr;rw [h2];exact ⟨YP (p:=2) (by decide) (by decide) (by unfold Fb;decide) (by decide),by show 1≤3;decide⟩
 |i+3,hr=>simp [exL]at hr
theorem kF(p1 p2 p3:Option Addr):(∃x,DX (exL p1 p2 p3) 1 2 exQ=some x∧x.res.val=1∧x.since=1∧x.until_=2)∧∃y,DX (exL p1 p2 p3) 1 3 exQ=some y∧y.res.val=2∧y.since=3∧y.until_=3:=by
 have hl:=YQ p1 p2 p3;obtain ⟨_,_,h2,h3⟩:=aI p1 p2 p3;have hk:1≤exQ.kd∧exQ.kd≤4:=by decide
 refine ⟨?_,?_⟩
 · cases h:DX (exL p1 p2 p3) 1 2 exQ with
   |none=>exact absurd h (P9 hl (by show 3≤20;decide) (by decide) (by show 2≤3;decide) Fv hk)
   |some x=>
    obtain ⟨e,hs⟩:=FN hl (by show 3≤20;decide) (by decide) (by show 2≤3;decide) Fv h;refine ⟨x,rfl,?_,?_,by rw [e];rfl⟩
    · rw [e,h2];exact (by decide:(Cz (exR 2) exQ).val=1)
    · obtain ⟨⟨a1,a2⟩,a3,_⟩:=hs
      rcases (by omega:x.since=1∨x.since=2)with h9|h9
      · exact h9
      · obtain ⟨j,r,hj,hr,ht⟩:=a3 (by rw [h9];decide)
        obtain rfl:j=1:=by omega
        injection hr with hr
        subst hr;have:Im exQ ⟨2,p2,1,[exC 6 99]⟩=false:=(by decide:[exC 6 99].any (Ei exQ)=false)
        rw [this]at ht;cases ht
 · cases h:DX (exL p1 p2 p3) 1 3 exQ with
   |none=>exact absurd h (P9 hl (by show 3≤20;decide) (by decide) (by show 3≤3;decide) Fv hk)
   |some x=>
    obtain ⟨e,hs⟩:=FN hl (by show 3≤20;decide) (by decide) (by show 3≤3;decide) Fv h;refine ⟨x,rfl,?_,?_,by rw [e];rfl⟩
    · rw [e,h3];exact (by decide:(Cz (exR 3) exQ).val=2)
    · obtain ⟨⟨a1,a2⟩,_,a4⟩:=hs
      rcases (by omega:x.since=3∨x.since≤2)with h9|h9
      · exact h9
      · have ht:=a4 2 ⟨3,p3,1,[exC 7 11]⟩ (by omega) (by decide) rfl
        have:Im exQ ⟨3,p3,1,[exC 7 11]⟩=true:=(by decide:[exC 7 11].any (Ei exQ)=true);rw [this]at ht;cases ht
theorem kE(p1 p2 p3:Option Addr):Ew exQ 1 (EM (Bb ((exL p1 p2 p3).take 1)) exQ) (DV (exL p1 p2 p3) 2 3)=none:=by
 have hl:=YQ p1 p2 p3;obtain ⟨hs,hn⟩:=hl.rows 1 (by show 1≤3;decide);have hst:=FJ hs hn (hl.rowsOk 1 (by show 1≤3;decide)) Fv (Ff hl (by show 3≤20;decide) (by show 1≤3;decide) exQ)
 rw [Gq hst (by show 1≤64;decide)];rw [show DV (exL p1 p2 p3) 2 3=[⟨3,p3,1,[exC 7 11]⟩] from rfl];unfold Ez;rw [if_neg (fun h9=>by have:=h9.2.2;revert this;show(3:Int)=1+1+((0:Nat):Int)→False;decide)];rfl
theorem We:CK Tryz.prog 42 #[] [] (fun r H'=>∃g1 g2 g3 g0,r=I6 g0 3 3∧H'=[[(g1,.cells #[I4 0,I4 5,.bool false,I4 0,I4 0,I4 0,.bool true,I4 10,I4 0,I4 0] 77 (0,0))],[(g2,.cells #[I4 0,I4 6,.bool false,I4 0,I4 0,I4 0,.bool true,I4 99,I4 0,I4 0] 77 (0,0))],[(g3,.cells #[I4 0,I4 7,.bool false,I4 0,I4 0,I4 0,.bool true,I4 11,I4 0,I4 0] 77 (0,0))],[(g0,.cells #[I4 1,I6 g1 1 1,I4 2,I6 g2 1 1,I4 3,I6 g3 1 1] 73 (0,0))]]):=by
 refine Se func42 ntmps42 [] ?_;intro u R;refine Zq<|Zg<|Za Y<|Z0<|Zx<|Zq<|Zg<|Zv (BJ (vs:=[(0,_),(1,_),(2,_)]) (cs:=#[_,_,_]) Y (Ci zeroValue75 underlying75 sizeOf3 rfl)) ?_;refine Zv (BJ (vs:=[(1,I4 5),(4,.bool true),(5,.agg #[I4 10,I4 0,I4 0])]) (cs:=#[I4 0,I4 5,.bool false,I4 0,I4 0,I4 0,.bool true,I4 10,I4 0,I4 0]) Y (AX (pl:=#[(0,1),(1,1),(2,1),(3,3),(6,1),(7,3)]) zeroValue77 underlying77 (fun _=>by kernel_rfl) (by kernel_rfl))) ?_;refine Ze (Ae (vs:=[_]) (cs:=[_,_,_,_,_,_,_,_,_,_]) underlying71 sizeOf77 zeroValue77 Y rfl rfl rfl rfl rfl) ?_;rintro _ _ ⟨g1,rfl,rfl⟩;refine Zv (BJ (vs:=[(0,_),(1,_)]) (cs:=#[_,_]) Y (AX (pl:=#[(0,1),(1,1)]) zeroValue73 underlying73 (fun _=>by kernel_rfl) rfl)) ?_;refine Zv (BJ (vs:=[(0,_),(1,_),(2,_)]) (cs:=#[_,_,_]) Y (Ci zeroValue75 underlying75 sizeOf3 rfl)) ?_;refine Zv (BJ (vs:=[(1,I4 6),(4,.bool true),(5,.agg #[I4 99,I4 0,I4 0])]) (cs:=#[I4 0,I4 6,.bool false,I4 0,I4 0,I4 0,.bool true,I4 99,I4 0,I4 0]) Y (AX (pl:=#[(0,1),(1,1),(2,1),(3,3),(6,1),(7,3)]) zeroValue77 underlying77 (fun _=>by kernel_rfl) (by kernel_rfl))) ?_;refine Ze (Ae (vs:=[_]) (cs:=[_,_,_,_,_,_,_,_,_,_]) underlying71 sizeOf77 zeroValue77 Y rfl rfl rfl rfl rfl) ?_;rintro _ _ ⟨g2,rfl,rfl⟩;refine Zv (BJ (vs:=[(0,_),(1,_)]) (cs:=#[_,_]) Y (AX (pl:=#[(0,1),(1,1)]) zeroValue73 underlying73 (fun _=>by kernel_rfl) rfl)) ?_;refine Zv (BJ (vs:=[(0,_),(1,_),(2,_)]) (cs:=#[_,_,_]) Y (Ci zeroValue75 underlying75 sizeOf3 rfl)) ?_;refine Zv (BJ (vs:=[(1,I4 7),(4,.bool true),(5,.agg #[I4 11,I4 0,I4 0])]) (cs:=#[I4 0,I4 7,.bool false,I4 0,I4 0,I4 0,.bool true,I4 11,I4 0,I4 0]) Y (AX (pl:=#[(0,1),(1,1),(2,1),(3,3),(6,1),(7,3)]) zeroValue77 underlying77 (fun _=>by kernel_rfl) (by kernel_rfl))) ?_;refine Ze (Ae (vs:=[_]) (cs:=[_,_,_,_,_,_,_,_,_,_]) underlying71 sizeOf77 zeroValue77 Y rfl rfl rfl rfl rfl) ?_;rintro _ _ ⟨g3,rfl,rfl⟩;refine Zv (BJ (vs:=[(0,_),(1,_)]) (cs:=#[_,_]) Y (AX (pl:=#[(0,1),(1,1)]) zeroValue73 underlying73 (fun _=>by kernel_rfl) rfl)) ?_
 refine Ze (Ae (vs:=[_,_,_]) (cs:=[_,_,_,_,_,_]) underlying28 sizeOf73 zeroValue73 Y rfl rfl rfl rfl rfl) ?_;rintro _ _ ⟨g0,rfl,rfl⟩;refine Za Y<|Z0<|Zn [0] ?_;refine Zx<|A9 ?_;refine AB rfl results42 Y (by exact ⟨g1,g2,g3,g0,rfl,rfl⟩)
structure rY(l:List Bo):Prop where
 ok:DR l
 len:l.length=3
 one:∃x,DX l 1 2 exQ=some x∧x.res.val=1∧x.since=1∧x.until_=2
 two:∃y,DX l 1 3 exQ=some y∧y.res.val=2∧y.since=3∧y.until_=3
 third:Ew exQ 1 (EM (Bb (l.take 1)) exQ) (DV l 2 l.length)=none
theorem Uh{M:List AR}{g:Nat}{T:TypeId}{z:Nat×Nat}{cur:Array Value}{c:Chg}(hm:(g,Obj.cells cur T z)∈M)(hs:10≤cur.size)(he:cur.extract 0 10=#[I4 c.t,I4 c.k,.bool c.had,I4 c.o.a,I4 c.o.b,I4 c.o.c,.bool c.has,I4 c.n.a,I4 c.n.b,I4 c.n.c]):Di M (I6 g [c].length 1) [c]:=⟨_,_,rfl,by show 1≤maxLen;decide,fun i x hx=>by
 match i,hx with
 |0,hx=>injection hx with hx;subst hx;exact ⟨g,0,cur,T,z,rfl,hm,by omega,by simpa using he⟩
 |i+1,hx=>simp at hx⟩
theorem eP:CK Tryz.prog 42 #[] [] (fun r H'=>∃(l:List Bo) (p:Option Addr) (cap:Nat) (M:List AR),rY l∧Dw M (.slice p l.length cap) l∧r= .slice p l.length cap∧H'=[M]):=by
 refine EK We rfl ?_;rintro r H' ⟨g1,g2,g3,g0,rfl,rfl⟩;obtain ⟨h1,h2⟩:=kF (some ⟨g1,0,none⟩) (some ⟨g2,0,none⟩) (some ⟨g3,0,none⟩);refine ⟨_,⟨exL (some ⟨g1,0,none⟩) (some ⟨g2,0,none⟩) (some ⟨g3,0,none⟩),some ⟨g0,0,none⟩,3,[(g1,.cells #[I4 0,I4 5,.bool false,I4 0,I4 0,I4 0,.bool true,I4 10,I4 0,I4 0] 77 (0,0)),(g2,.cells #[I4 0,I4 6,.bool false,I4 0,I4 0,I4 0,.bool true,I4 99,I4 0,I4 0] 77 (0,0)),(g3,.cells #[I4 0,I4 7,.bool false,I4 0,I4 0,I4 0,.bool true,I4 11,I4 0,I4 0] 77 (0,0)),(g0,.cells #[I4 1,I6 g1 1 1,I4 2,I6 g2 1 1,I4 3,I6 g3 1 1] 73 (0,0))],⟨YQ _ _ _,rfl,h1,h2,kE _ _ _⟩,⟨_,_,rfl,⟨by show 3≤maxLen;decide,tJ _⟩,fun i r hr=>?_⟩,rfl,rfl⟩,by simp⟩
 match i,hr with
 |0,hr=>injection hr with hr;subst hr;exact ⟨Uh (g:=g1) (c:=exC 5 10) (.head _) (by decide) rfl,g0,0,_,_,_,rfl,.tail _ (.tail _ (.tail _ (.head _))),wK rfl,rfl⟩
 |1,hr=>injection hr with hr;subst hr;exact ⟨Uh (g:=g2) (c:=exC 6 99) (.tail _ (.head _)) (by decide) rfl,g0,0,_,_,_,rfl,.tail _ (.tail _ (.tail _ (.head _))),wK rfl,rfl⟩
 |2,hr=>injection hr with hr;subst hr;exact ⟨Uh (g:=g3) (c:=exC 7 11) (.tail _ (.tail _ (.head _))) (by decide) rfl,g0,0,_,_,_,rfl,.tail _ (.tail _ (.tail _ (.head _))),wK rfl,rfl⟩
 |i+3,hr=>simp [exL]at hr
theorem PD{l:List Bo}(hl:DR l)(h20:l.length≤20){a b:Nat}(hab:a≤b)(hb:b≤l.length){q:QM}(hq:BN q){x:Ll}(h:DX l a b q=some x):(∀y∈x.ranges,y.small)∧x.ranges.length≤1000000∧(-1000000000000≤x.base∧x.base≤1000000000000)∧(∀r∈x.recs,r.cs.length≤1000)∧Fa x.q x.ranges=some (Cz (Bb (l.take a)) q):=by
 obtain ⟨hs,hn⟩:=hl.rows a (by omega);have hscan:=Ff hl h20 (by omega:a≤l.length) q
 have hst:=FJ hs hn (hl.rowsOk a (by omega)) hq hscan;have hm:=Ld (Bb (l.take a)) q
 obtain ⟨e,_⟩:=FN hl h20 hab hb hq h;rw [e];exact ⟨Vz hs hn q,by show(EM _ _).length≤_;omega,by show _≤(a:Int)∧(a:Int)≤_;omega,Kk hl a b,hst⟩
theorem jb{v:Value}{l:List Bo}{n:Nat}{s:List AR}(h:BX 3 67 v n (Gm (Kv l n)) s)(hn:0<n):∃g cap cur z,v=I6 g n cap∧s=[(g,.cells cur 67 z)]∧∀i,i<n→0+i*3+3≤cur.size∧cur.extract (0+i*3) (0+i*3+3)=#[I4 (EQ l i).p,.string (str (EQ l i).ch),.string (str (EQ l i).st)]:=by
 obtain ⟨g,cap,cur,z,rfl,rfl,_,_⟩:=De h hn;refine ⟨g,cap,cur,z,rfl,rfl,fun i hi=>?_⟩;obtain ⟨g',cap',cur',z',hv,hs,hsz,hex⟩:=HY h i hi;injection hs with hs
 injection hs with hs1 hs2
 injection hs2 with hs2 hs3 hs4
 subst hs2;rw [uE];refine ⟨hsz,vW.1 ?_⟩;rw [hex];exact GN (fun h:Cr=>[I4 h.p,.string (str h.ch),.string (str h.st)]) 3 (fun _=>rfl) (Kv l n) i (EQ l i) (by unfold Kv;rw [tX,xK hi];rfl)
theorem mE{A M:List AR}{x y:KT}(hx:x.ok (A++M))(hy:y.ok (A++M)):Au Tryz.prog 28 #[.agg #[I4 x.a.q.kd,I4 x.a.q.tb,I4 x.a.q.cl,I4 x.a.q.lo,I4 x.a.q.hi,I4 x.a.q.bq,I4 x.a.q.ot,.slice x.rp x.a.res.rows.length x.rc,I4 x.a.res.val,.bool x.a.res.fnd,I4 x.a.since,I4 x.a.until_,I4 x.a.base,.slice x.gp x.a.ranges.length x.gc,.slice x.cp x.a.recs.length x.cc],.agg #[I4 y.a.q.kd,I4 y.a.q.tb,I4 y.a.q.cl,I4 y.a.q.lo,I4 y.a.q.hi,I4 y.a.q.bq,I4 y.a.q.ot,.slice y.rp y.a.res.rows.length y.rc,I4 y.a.res.val,.bool y.a.res.fnd,I4 y.a.since,I4 y.a.until_,I4 y.a.base,.slice y.gp y.a.ranges.length y.gc,.slice y.cp y.a.recs.length y.cc]] [A,M] (.bool (decide (x.a.eqv y.a))):=by
 refine EK (MI hx hy) (by simp) ?_;rintro r H' ⟨rfl,rfl⟩;exact ⟨_,⟨rfl,rfl⟩,by simp⟩
theorem mD{A B M:List AR}{x y:KT}(hx:x.ok (A++M))(hy:y.ok (B++M)):Au Tryz.prog 28 #[.agg #[I4 x.a.q.kd,I4 x.a.q.tb,I4 x.a.q.cl,I4 x.a.q.lo,I4 x.a.q.hi,I4 x.a.q.bq,I4 x.a.q.ot,.slice x.rp x.a.res.rows.length x.rc,I4 x.a.res.val,.bool x.a.res.fnd,I4 x.a.since,I4 x.a.until_,I4 x.a.base,.slice x.gp x.a.ranges.length x.gc,.slice x.cp x.a.recs.length x.cc],.agg #[I4 y.a.q.kd,I4 y.a.q.tb,I4 y.a.q.cl,I4 y.a.q.lo,I4 y.a.q.hi,I4 y.a.q.bq,I4 y.a.q.ot,.slice y.rp y.a.res.rows.length y.rc,I4 y.a.res.val,.bool y.a.res.fnd,I4 y.a.since,I4 y.a.until_,I4 y.a.base,.slice y.gp y.a.ranges.length y.gc,.slice y.cp y.a.recs.length y.cc]] [A,B,M] (.bool (decide (x.a.eqv y.a))):=by
 refine EK (MI (hx.mono (M':=A++(B++M)) (fun c hc=>by rcases tV.1 hc with h9|h9;exact uG _ h9;exact tQ _ (tQ _ h9))) (hy.mono (fun c hc=>tQ A hc))) (by simp) ?_;rintro r H' ⟨rfl,rfl⟩;exact ⟨_,⟨rfl,rfl⟩,by simp⟩
theorem fC:¬BN ⟨0,0,0,0,0,0,0⟩:=by decide
end Go.Proofs.YtkdgffcfmgmemaaGreatDoor
