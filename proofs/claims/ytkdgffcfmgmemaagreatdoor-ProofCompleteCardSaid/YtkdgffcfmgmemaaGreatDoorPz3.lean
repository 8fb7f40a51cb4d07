/- The helpers of the laws of chapter 11. -/
/- log, positions, built. -/
/- What is built on a log, in plain words; the example of chapter 11. -/
/- The example of chapter 11; sane. -/
import Derived.Test.YtkdgffcfmgmemaaGreatDoorEz
import Derived.Test.YtkdgffcfmgmemaaGreatDoorEx31
import Derived.Test.YtkdgffcfmgmemaaGreatDoorPy7
import Derived.Test.YtkdgffcfmgmemaaGreatDoorPy8
import Derived.Test.YtkdgffcfmgmemaaGreatDoorPf2
set_option linter.unusedVariables false
set_option linter.unusedSimpArgs false
namespace Go.Proofs.YtkdgffcfmgmemaaGreatDoor
open Go.Proofs.Tryz
open Go Go.RowKit Gw
set_option maxRecDepth 100000
attribute [local irreducible] Gw.At Gw.Nx Gw.Ops
theorem H9{z:Int}(k:Int)(hk:1≤k)(h1:-9223372036854775808≤z)(h2:z≤9223372036854775807):-9223372036854775808≤z.tdiv k∧z.tdiv k≤9223372036854775807:=by
 have h:=Int.natAbs_tdiv_le_natAbs z k;rcases Int.lt_or_le z 0 with hz|hz
 · have:z.tdiv k≤0:=by
    obtain ⟨y,rfl⟩:∃y,z=-y:=⟨-z,by omega⟩;rw [Int.neg_tdiv];have:=Int.tdiv_nonneg (a:=y) (b:=k) (by omega) (by omega)
    omega
   omega
 · have:=Int.tdiv_nonneg hz (show(0:Int)≤k by omega)
   omega
theorem LZ{kd tb cl lo hi bq ot:Int}(h:(0≤tb∧tb≤3)∧(0≤cl∧cl≤3)∧(-1000000000≤lo∧lo≤hi∧hi≤1000000000)∧
 ((kd=1∧cl=0∧lo=hi∧(1≤lo∧lo≤1000000)∧bq=0∧ot=0)∨((kd=2∨kd=3)∧bq=0∧ot=0)∨
  ((kd=4∨kd=5∨kd=6)∧(1≤bq∧bq≤3)∧ot=0)∨(kd=7∧(1≤bq∧bq≤3)∧(0≤ot∧ot≤3)))):BN ⟨kd,tb,cl,lo,hi,bq,ot⟩:=h
theorem kT{g o c sz a:Nat}(h:a<c):EU (some ⟨g,o,none⟩) a c sz=some ⟨g,o+a*sz,none⟩:=by
 unfold EU;rw [if_neg (by omega),vU,CY]
theorem Jf{M:List AR}{p:Option Addr}{cap a b:Nat}{l:List Bt}(h:Dx M (.slice p l.length cap) l)(hab:a≤b)(hb:b≤l.length):Dx M (.slice (EU p a cap 2) (b -a) (cap -a)) ((l.drop a).take (b -a)):=by
 obtain ⟨p',cap',e,⟨hl,hlc⟩,hg⟩:=h;injection e with e1 e2 e3
 subst e1 e3;have e4:((l.drop a).take (b -a)).length=b -a:=by rw [tL,tN];omega
 refine ⟨_,_,by rw [e4],⟨by omega,by omega⟩,fun i x hx=>?_⟩;rw [uZ]at hx;split at hx
 · rw [ut]at hx
   obtain ⟨h1,g,off,cur,T,zz,rfl,hm,hsz,hex⟩:=hg (a+i) x hx;rw [kT (by omega)];exact ⟨h1,g,_,cur,T,zz,rfl,hm,by omega,by rw [show off+a*2+i*2=off+(a+i)*2 by omega];exact hex⟩
 · cases hx
theorem iQ(rs:List AP)(c:Chg):(EI rs c).length≤rs.length+1:=by
 unfold EI MV;simp only [tJ,tL,tN];split<;>simp only [tT,vF]<;>omega
theorem QJ:∀(cs:List Chg) (rs:List AP),(DJ rs cs).length≤rs.length+cs.length
 |[],_=>tQ _
 |c::cs,rs=>by
  have h1:=QJ cs (EI rs c);have h2:=iQ rs c
  rw [tX];exact xk h1 (by omega)
theorem DZ.few{l:List Bt}(h:DZ l):∀i,i≤l.length→(Bc (l.take i)).length≤3*i
 |0,_=>by rw [uo];exact tQ _
 |i+1,hi=>by
  obtain ⟨r,hr⟩:∃r,l[i]?=some r:=⟨_,tF (by omega)⟩;rw [Bp hr,FL];have h1:=QJ r.cs (Bc (l.take i))
  have h2:=DZ.few h i (by omega);have h3:=(h i r hr).2
  omega
theorem kw{M:List AR}{q:Option Addr}{cap:Nat}{l:List Bt}(hRI:Dx M (.slice q l.length cap) l)(hlog:DZ l)(hl:l.length≤1000000)(k:Nat)(hk:k≤l.length):CF Tryz.prog 13 #[.slice q l.length cap,I4 (k:Int)] [M] (fun r H'=>∃v s,r= .tuple #[v,I4 0]∧Nj v (k:Int) (Bc (l.take k)) s∧H'=[s,M]):=by
 refine ED (qU q cap l M hRI hlog hl k hk) rfl ?_;rintro r H' ⟨sp,mm,es,ck,lm,rfl,hm,hR,rfl⟩;obtain ⟨hs,hn⟩:=hlog.rows k hk;exact ⟨_,⟨_,_,rfl,⟨sp,mm,es,ck,lm,rfl,hm,hR,hs,hn,rfl⟩,rfl⟩,by simp⟩
theorem K3{E M:List AR}(q:QM)(te base:Int)(hb:-1000000000000≤base∧base≤1000000000000){pg:Option Addr}{cg:Nat}{L:List RP}(hL:Gs (E++M) (.slice pg L.length cg) L)(hLl:L.length≤1000000){r:CO}(hr:Fp q L=some r){lv:Value}{l:List Bt}(hl:Dx (E++M) lv l)(hcs:∀x∈l,x.cs.length≤1000):CF Tryz.prog 18 #[.agg #[I4 q.kd,I4 q.tb,I4 q.cl,I4 q.lo,I4 q.hi,I4 q.bq,I4 q.ot,I4 te,I4 base,.slice pg L.length cg],lv] [E,M] (fun w H'=>∃(z:K5) (s:List AR) (b:Bool),((b=true∧EO q base L l=some z.a∧z.ok (s++E++M))∨(b=false∧EO q base L l=none))∧w= .tuple #[.agg #[I4 z.a.q.kd,I4 z.a.q.tb,I4 z.a.q.cl,I4 z.a.q.lo,I4 z.a.q.hi,I4 z.a.q.bq,I4 z.a.q.ot,.slice z.rp z.a.res.rows.length z.rc,I4 z.a.res.val,.bool z.a.res.fnd,I4 z.a.since,I4 z.a.until_,I4 z.a.base,.slice z.gp z.a.ranges.length z.gc,.slice z.cp z.a.recs.length z.cc],.bool b]∧H'=[s,E,M]):=by
 refine ED (aW q te base hb hL hLl hr hl hcs) (by simp) ?_;rintro w H' ⟨z,s,b,h1,rfl,rfl⟩;exact ⟨_,⟨z,s,b,by simpa only [tO]using h1,rfl,rfl⟩,by simp⟩
theorem LF{E M:List AR}(base until_:Cr){z:K5}(hz:z.ok (E++M))(hs:∀x∈z.a.ranges,x.small)(hrl:z.a.ranges.length≤1000000)(hb:-1000000000000≤z.a.base∧z.a.base≤1000000000000)(hcs:∀x∈z.a.recs,x.cs.length≤1000){r:CO}(hr:Fp z.a.q z.a.ranges=some r)(Tg:TypeId)(zg:Nat×Nat):Aw Tryz.prog 26 #[.agg #[I4 base.p,.string (str base.ch),.string (str base.st)],.agg #[I4 until_.p,.string (str until_.ch),.string (str until_.st)],.agg #[I4 z.a.q.kd,I4 z.a.q.tb,I4 z.a.q.cl,I4 z.a.q.lo,I4 z.a.q.hi,I4 z.a.q.bq,I4 z.a.q.ot,.slice z.rp z.a.res.rows.length z.rc,I4 z.a.res.val,.bool z.a.res.fnd,I4 z.a.since,I4 z.a.until_,I4 z.a.base,.slice z.gp z.a.ranges.length z.gc,.slice z.cp z.a.recs.length z.cc]] [[(1,.cells (Cw.map Bn).toArray Tg zg)],E,M] (.bool (decide (IE base until_ z.a))):=by
 refine ED (nX base until_ hz hs hrl hb hcs hr Tg zg) (by simp) ?_;rintro r H' ⟨rfl,rfl⟩;exact ⟨_,⟨rfl,rfl⟩,by simp⟩
def ER(l:List Bt)(a b:Nat):List Bt:=(l.drop a).take (b -a)
theorem OB{l:List Bt}{a b:Nat}(hb:b≤l.length):(ER l a b).length=b -a:=by unfold ER;rw [tL,tN];omega
theorem Vs{l:List Bt}{a b k:Nat}{x:Bt}(h:(ER l a b)[k]?=some x):l[a+k]?=some x∧k<b -a:=by
 unfold ER at h;rw [uZ]at h;split at h
 · rename_i h9;rw [ut]at h;exact ⟨h,h9⟩
 · cases h
theorem Iu{l:List Bt}(h:DZ l)(a b:Nat):∀x∈ER l a b,x.cs.length≤1000:=fun x hx=>by
 obtain ⟨k,hk⟩:=uV hx;have:=(h _ x (Vs hk).1).2
 omega
theorem Em{l:List Bt}(h:DZ l)(hl:l.length≤20){k:Nat}(hk:k≤l.length)(q:QM):(CQ (Bc (l.take k)) q).length≤100:=by
 have h1:=h.few k hk;have h2:=(@K8 (Bc (l.take k)) q.tb q.cl.toNat q.lo q.hi).1
 unfold CQ;omega
theorem Jq(rs:List AP)(q:QM):(Ef rs q).length≤1+(CQ rs q).length:=by
 unfold Ef;split
 · rw [tX,tK];omega
 · simp
noncomputable def De(l:List Bt)(a b:Nat)(q:QM):Option Mm:=EO q (a:Int) (Ef (Bc (l.take a)) q) (ER l a b)
theorem iW(c:Int)(n:Nat)(hn:0<n)(hn2:n≤1000000)(h1:-9223372036854775808≤c)(h2:c≤9223372036854775807):Aw Tryz.prog 32 #[I4 c,I4 (n:Int)] [] (I4 (C9 c n:Int)):=by
 refine Se func32 ntmps32 [0,1] ?_;intro u R;refine Zq<|Zg<|Za Y<|Z0<|Zx<|Zq<|Zq<|Zg<|Zm Y<|Zv (Ee Y Y)<|Z0<|Zx ?_;refine Ao Y (fun hc1=>?_) (fun hc1=>?_)
 ·
  refine Zg<|Zm Y<|Yi Y Y ?_
  (refine BM (TP Y (IntWalk.i64_in _ ?_)) ?_;(focus (omega)))
  refine Za Y<|Z0<|Zx<|Zq<|Zg<|Zm Y<|Zm Y ?_
  (refine BM (TM Y Y ?_ rfl) ?_;(focus (omega)))
  refine Za Y<|Z0<|Zx<|A9 ?_;refine AC rfl results32 Y (by exact ⟨by rw [←NK];simp [*],rfl⟩)
 refine AB<|Zx<|Zq<|Zg<|Zm Y<|Zm Y ?_
 (refine BM (TM Y Y ?_ rfl) ?_;(focus (omega)))
 refine Za Y<|Z0<|Zx<|A9 ?_;refine AC rfl results32 Y (by exact ⟨by rw [←NK];simp [*],rfl⟩)
theorem Ke(c:Int)(n:Nat)(hn:0<n)(hn2:n≤1000000)(h1:-9223372036854775808≤c)(h2:c≤9223372036854775807):Aw Tryz.prog 106 #[I4 c,I4 (n:Int)] [] (I4 (C9 c n:Int)):=by
 refine Se func106 ntmps106 [0,1] ?_;intro u R;refine Zq<|Zg<|Za Y<|Z0<|Zx<|Zq<|Zq<|Zg<|Zm Y<|Zv (Ee Y Y)<|Z0<|Zx ?_;refine Ao Y (fun hc1=>?_) (fun hc1=>?_)
 ·
  refine Zg<|Zm Y<|Yi Y Y ?_
  (refine BM (TP Y (IntWalk.i64_in _ ?_)) ?_;(focus (omega)))
  refine Za Y<|Z0<|Zx<|Zq<|Zg<|Zm Y<|Zm Y ?_
  (refine BM (TM Y Y ?_ rfl) ?_;(focus (omega)))
  refine Za Y<|Z0<|Zx<|A9 ?_;refine AC rfl results106 Y (by exact ⟨by rw [←NK];simp [*],rfl⟩)
 refine AB<|Zx<|Zq<|Zg<|Zm Y<|Zm Y ?_
 (refine BM (TM Y Y ?_ rfl) ?_;(focus (omega)))
 refine Za Y<|Z0<|Zx<|A9 ?_;refine AC rfl results106 Y (by exact ⟨by rw [←NK];simp [*],rfl⟩)
set_option maxHeartbeats 1000000 in
theorem pG(q0 q1 q2 q3 q4:Int)(hq01:-9223372036854775808≤q0)(hq02:q0≤9223372036854775807)(hq11:-9223372036854775808≤q1)(hq12:q1≤9223372036854775807)(hq21:-9223372036854775808≤q2)(hq22:q2≤9223372036854775807)(hq31:-9223372036854775808≤q3)(hq32:q3≤9223372036854775807)(hq41:-9223372036854775808≤q4)(hq42:q4≤9223372036854775807):CF Tryz.prog 45 #[.agg #[I4 q0,I4 q1,I4 q2,I4 q3,I4 q4]] [] (fun r H'=>∃q:QM,BN q∧r= .agg #[I4 q.kd,I4 q.tb,I4 q.cl,I4 q.lo,I4 q.hi,I4 q.bq,I4 q.ot]∧H'=[]):=by
 have htq07:=H9 7 (by decide) hq01 hq02;have hpq07:=FN (q0.tdiv 7) 3 (by decide)
 have htq19:=H9 9 (by decide) hq11 hq12;have hpq19:=FN (q1.tdiv 9) 4 (by decide)
 have htq43:=H9 3 (by decide) hq41 hq42;have hpq43:=FN (q4.tdiv 3) 3 (by decide)
 have htq49:=H9 9 (by decide) hq41 hq42;have hpq49:=FN (q4.tdiv 9) 3 (by decide)
 have hpq0:=FN q0 7 (by decide);have hpq1:=FN q1 9 (by decide)
 have hpq2:=FN q2 14 (by decide);have hpq3:=FN q3 14 (by decide)
 have hpq4:=FN q4 3 (by decide);refine Se func45 ntmps45 [0] ?_;intro u R;refine Zq<|Zg<|Ze (Bx #[_,_,_,_,_]) ?_;rintro _ _ ⟨bx,rfl,rfl⟩;refine Ze (Al zeroValue30 #[_,_,_,_,_,_,_]) ?_;rintro _ _ ⟨br,rfl,rfl⟩;refine Z0<|Zx<|Zb [1,2] ?_;refine CU (e0:=[]) (H0:=[]) (fun e H=>∃(bq:Nat),(True)∧e=[(3,I5 bq)]∧H=[[(bq,.cells #[I4 ((1+C9 q0 7:Nat):Int),I4 (C9 (q0.tdiv 7) 3:Int),I4 0,I4 0,I4 0,I4 0,I4 0] 30 (0,0))]]) Wp ?hx_1 ?hy_1
 case hx_1=>
  refine BJ (n:=11) (0::1::3::7::0::16::48::119::255::0::1023::[]) 1668 (by kernel_rfl) (by kernel_rfl) rfl ?_;refine Zi 1 0 rfl (BG (j:=0) underlying23 sizeOf3 Y Y (by first|omega|decide|(simp;done))) ?_;refine Zj 3 1 rfl isAgg3 Y ?_;refine Zi 19 4 rfl (BG (j:=0) underlying23 sizeOf3 Y Y (by first|omega|decide|(simp;done))) ?_;refine Zj 51 5 rfl isAgg3 Y ?_;refine Zi 115 6 rfl (TN (m:=q0) (n:=7) Y Y (by decide) (IntWalk.i64_in _ (by have:=H9 7 (by decide) hq01 hq02;omega))) ?_;refine Zz (l:=[2,9]) ?_;refine Zy 3 119 [5,1] [true,false] [(5,(_,_))] rfl Y rfl rfl rfl rfl (Zu [_,_] Y call106 Y rfl (Ke q0 7 (by decide) (by decide) hq01 hq02)) ?hk_2 (fun _ _ h=>h.elim) ?hl_2
  case hk_2=>
   rintro _ _ ⟨rfl,rfl⟩;refine ⟨Zk (Ad),?_⟩;refine Zi 127 3 rfl (D9 (m:=1) Y Y (by omega)) ?_;refine Zz (l:=[7,9]) ?_;refine Zy 119 255 [5] [false] [] rfl Y rfl rfl rfl rfl (Zu [_,_] Y call106 Y rfl (Ke (q0.tdiv 7) 3 (by decide) (by decide) htq07.1 htq07.2)) ?hk_3 (fun _ _ h=>h.elim) ?hl_3
   case hk_3=>
    rintro _ _ ⟨rfl,rfl⟩;refine ⟨Ad,?_⟩;refine Zi 511 8 rfl (BK (vs:=[(0,I4 ((1+C9 q0 7:Nat):Int)),(1,I4 (C9 (q0.tdiv 7) 3:Int))]) (cs:=#[I4 ((1+C9 q0 7:Nat):Int),I4 (C9 (q0.tdiv 7) 3:Int),I4 0,I4 0,I4 0,I4 0,I4 0]) Y (Aa (pl:=#[(0,1),(1,1),(2,1),(3,1),(4,1),(5,1),(6,1)]) zeroValue30 underlying30 (fun _=>by kernel_rfl) (by kernel_rfl))) ?_;refine Yw 9 1023 rfl (Al zeroValue30 #[_,_,_,_,_,_,_]) ?_;rintro _ _ ⟨bq,rfl,rfl⟩;refine Yw 10 2047 rfl (Xw sizeOf30 #[I4 ((1+C9 q0 7:Nat):Int),I4 (C9 (q0.tdiv 7) 3:Int),I4 0,I4 0,I4 0,I4 0,I4 0]) ?_;rintro _ _ ⟨rfl,rfl⟩;refine Am ?_;refine Zn [3,1,2] ?_;refine BA (e':=[(3,_)]) (by exact ⟨bq,trivial,rfl,rfl⟩)
   refine Zy 0 639 [5] [true] [(5,(_,_))] rfl Y rfl rfl rfl rfl (Al zeroValue30 #[_,_,_,_,_,_,_]) ?hk_7 (fun _ _ h=>h.elim) ?hl_7
   case hk_7=>
    rintro _ _ ⟨bq,rfl,rfl⟩;refine ⟨Zk (Ad),?_⟩;refine Yw 7 767 rfl (Zu [_,_] Y call106 Y rfl (Ke (q0.tdiv 7) 3 (by decide) (by decide) htq07.1 htq07.2)) ?_;rintro _ _ ⟨rfl,rfl⟩;refine Zi 1023 8 rfl (BK (vs:=[(0,I4 ((1+C9 q0 7:Nat):Int)),(1,I4 (C9 (q0.tdiv 7) 3:Int))]) (cs:=#[I4 ((1+C9 q0 7:Nat):Int),I4 (C9 (q0.tdiv 7) 3:Int),I4 0,I4 0,I4 0,I4 0,I4 0]) Y (Aa (pl:=#[(0,1),(1,1),(2,1),(3,1),(4,1),(5,1),(6,1)]) zeroValue30 underlying30 (fun _=>by kernel_rfl) (by kernel_rfl))) ?_;refine Yw 10 2047 rfl (Xw sizeOf30 #[I4 ((1+C9 q0 7:Nat):Int),I4 (C9 (q0.tdiv 7) 3:Int),I4 0,I4 0,I4 0,I4 0,I4 0]) ?_;rintro _ _ ⟨rfl,rfl⟩;refine Am ?_;refine Zn [3,1,2] ?_;refine BA (e':=[(3,_)]) (by exact ⟨bq,trivial,rfl,rfl⟩)
   exact Ar
  refine Zy 0 627 [5,1] [true,true] [(5,(_,_)),(1,(_,_))] rfl Y rfl rfl rfl rfl (Al zeroValue30 #[_,_,_,_,_,_,_]) ?hk_11 (fun _ _ h=>h.elim) ?hl_11
  case hk_11=>
   rintro _ _ ⟨bq,rfl,rfl⟩;refine ⟨Zk (Zk (Ad)),?_⟩;refine Yz 2 3 631 [5,1] [true,false] [(5,(_,_))] rfl Y rfl rfl rfl rfl (Zu [_,_] Y call106 Y rfl (Ke q0 7 (by decide) (by decide) hq01 hq02)) ?_;rintro _ _ ⟨rfl,rfl⟩;refine ⟨Zk (Ad),?_⟩;refine Zi 639 3 rfl (D9 (m:=1) Y Y (by omega)) ?_;refine Yw 7 767 rfl (Zu [_,_] Y call106 Y rfl (Ke (q0.tdiv 7) 3 (by decide) (by decide) htq07.1 htq07.2)) ?_;rintro _ _ ⟨rfl,rfl⟩;refine Zi 1023 8 rfl (BK (vs:=[(0,I4 ((1+C9 q0 7:Nat):Int)),(1,I4 (C9 (q0.tdiv 7) 3:Int))]) (cs:=#[I4 ((1+C9 q0 7:Nat):Int),I4 (C9 (q0.tdiv 7) 3:Int),I4 0,I4 0,I4 0,I4 0,I4 0]) Y (Aa (pl:=#[(0,1),(1,1),(2,1),(3,1),(4,1),(5,1),(6,1)]) zeroValue30 underlying30 (fun _=>by kernel_rfl) (by kernel_rfl))) ?_;refine Yw 10 2047 rfl (Xw sizeOf30 #[I4 ((1+C9 q0 7:Nat):Int),I4 (C9 (q0.tdiv 7) 3:Int),I4 0,I4 0,I4 0,I4 0,I4 0]) ?_;rintro _ _ ⟨rfl,rfl⟩;refine Am ?_;refine Zn [3,1,2] ?_;refine BA (e':=[(3,_)]) (by exact ⟨bq,trivial,rfl,rfl⟩)
  exact Ar
 rintro _ _ ⟨bq,_,rfl,rfl⟩;refine Zq<|Zq<|Zg<|Zh 0 underlying30 rfl rfl sizeOf3 Y<|Zl isAgg3 Y ?_;refine Zv (C8 (n:=1) Y Y)<|Z0<|Zx ?_;refine Ao Y (fun k1=>?_) (fun k1=>?_)
 ·
  refine Zq<|Zg ?_;refine BM (BG (j:=1) underlying23 sizeOf3 Y Y (by first|omega|decide|(simp;done))) ?_;refine Zl isAgg3 Y ?_;refine Xr [_,_] Y call106 Y rfl (Ke q1 9 (by decide) (by decide) hq11 hq12) ?_;refine Ya (m:=1) Y Y<|Zh 3 underlying30 rfl rfl sizeOf3 Y<|Xe (Zs sizeOf3 Y Y rfl (hi:=by first|omega|decide|(simp;done))) ?_;refine Z0<|Zx<|Zq<|Zg<|Zh 3 underlying30 rfl rfl sizeOf3 Y<|Zl isAgg3 Y ?_;refine Zh 4 underlying30 rfl rfl sizeOf3 Y<|Xe (Zs sizeOf3 Y Y rfl (hi:=by first|omega|decide|(simp;done))) ?_;refine Z0<|Zn [2,3] ?_;refine Zx<|Zq<|Zg<|Zo Wh (AY (cs:=#[_,_,_,_,_,_,_]) isAgg30 sizeOf30 Y Wb (by exact Av rfl)) ?_;refine Xe (BP sizeOf30 Y Y (by(simp [Value.oneCell'];done)) Wu (by exact DY rfl) (by first|rfl|(simp;done)) Wb (by exact BR _)) ?_;refine Z0<|Zx<|A9<|Zt ?_;refine DD rfl results45 Y Wh (Ah isAgg30 sizeOf30 Wn (Av rfl)) (by exact ⟨⟨((1+C9 q0 7:Nat):Int),(C9 (q0.tdiv 7) 3:Int),0,((1+C9 q1 9:Nat):Int),((1+C9 q1 9:Nat):Int),0,0⟩,LZ (by omega),rfl,rfl⟩)
 refine AB<|Zx<|Zq<|Zg ?_;refine BM (BG (j:=1) underlying23 sizeOf3 Y Y (by first|omega|decide|(simp;done))) ?_;refine Zl isAgg3 Y ?_;refine Zv (TN (m:=q1) (n:=9) Y Y (by decide) (IntWalk.i64_in _ (by have:=H9 9 (by decide) hq11 hq12;omega))) ?_;refine Xr [_,_] Y call106 Y rfl (Ke (q1.tdiv 9) 4 (by decide) (by decide) htq19.1 htq19.2) ?_;refine Zh 2 underlying30 rfl rfl sizeOf3 Y<|Xe (Zs sizeOf3 Y Y rfl (hi:=by first|omega|decide|(simp;done))) ?_;refine Z0<|Zx<|Zq<|Zg ?_;refine BM (BG (j:=2) underlying23 sizeOf3 Y Y (by first|omega|decide|(simp;done))) ?_;refine Zl isAgg3 Y ?_;refine Xr [_,_] Y call106 Y rfl (Ke q2 14 (by decide) (by decide) hq21 hq22) ?_
 (refine BM (GD Y Y (IntWalk.i64_in _ ?_)) ?_;(focus (omega)))
 refine Zh 3 underlying30 rfl rfl sizeOf3 Y<|Xe (Zs sizeOf3 Y Y rfl (hi:=by first|omega|decide|(simp;done))) ?_;refine Z0<|Zn [1,2,3] ?_;refine Zx<|Zq<|BJ (n:=8) (0::1::0::4::12::31::63::127::[]) 144 (by kernel_rfl) (by kernel_rfl) rfl ?_;refine Zi 1 0 rfl (AX (off:=3) underlying30 rfl rfl sizeOf3 Y)<|Zj 3 1 rfl isAgg3 Y ?_;refine Zi 7 2 rfl (BG (j:=3) underlying23 sizeOf3 Y Y (by first|omega|decide|(simp;done))) ?_;refine Zj 15 3 rfl isAgg3 Y ?_;refine Yz 4 12 31 [3,1] [false,true] [(1,(_,_))] rfl Y rfl rfl rfl rfl (Zu [_,_] Y call106 Y rfl (Ke q3 14 (by decide) (by decide) hq31 hq32)) ?_;rintro _ _ ⟨rfl,rfl⟩;refine ⟨Zk (Ad),?_⟩
 (refine E8 (D':=63) 5 (JJ Y Y (IntWalk.i64_in _ ?_)) ?_;(focus (omega)))
 refine Zi 127 6 rfl (AX (off:=4) underlying30 rfl rfl sizeOf3 Y)<|Zz (l:=[7]) ?_;refine Zy 127 255 [1] [false] [] rfl Y rfl rfl rfl rfl (Zs sizeOf3 Y Y rfl (hi:=by first|omega|decide|(simp;done))) ?hk_18 (fun _ _ h=>h.elim) ?hl_18
 case hk_18=>
  rintro _ _ ⟨rfl,rfl⟩;refine ⟨Ad,?_⟩;refine Am ?_;refine Zx<|Zb [1,2,3] ?_;refine CU (e0:=[]) (H0:=[[(bq,.cells #[I4 ((1+C9 q0 7:Nat):Int),I4 (C9 (q0.tdiv 7) 3:Int),I4 (C9 (q1.tdiv 9) 4:Int),I4 ((C9 q2 14:Int) -2),I4 ((C9 q2 14:Int) -2+(C9 q3 14:Int)),I4 0,I4 0] 30 (0,0))]]) (fun e H=>∃(lo hi:Int),(-100≤lo∧lo≤hi∧hi≤100)∧e=[]∧H=[[(bq,.cells #[I4 ((1+C9 q0 7:Nat):Int),I4 (C9 (q0.tdiv 7) 3:Int),I4 (C9 (q1.tdiv 9) 4:Int),I4 lo,I4 hi,I4 0,I4 0] 30 (0,0))]]) Wp ?hx_19 ?hy_19
  case hx_19=>
   refine Zq<|Zg<|Zh 2 underlying30 rfl rfl sizeOf3 Y<|Zl isAgg3 Y ?_;refine Zv (C8 (n:=3) Y Y)<|Z0<|Zx ?_;refine Ao Y (fun k2=>?_) (fun k2=>?_)
   ·
    refine Zq<|Zg<|Zh 3 underlying30 rfl rfl sizeOf3 Y<|Zl isAgg3 Y ?_
    (refine BM (ZU Y Y (IntWalk.i64_in _ ?_)) ?_;(focus (omega)))
    (refine BM (GD Y Y (IntWalk.i64_in _ ?_)) ?_;(focus (omega)))
    refine Zh 3 underlying30 rfl rfl sizeOf3 Y<|Xe (Zs sizeOf3 Y Y rfl (hi:=by first|omega|decide|(simp;done))) ?_;refine Z0<|Zx<|Zg<|Zh 4 underlying30 rfl rfl sizeOf3 Y<|Zl isAgg3 Y ?_
    (refine BM (ZU Y Y (IntWalk.i64_in _ ?_)) ?_;(focus (omega)))
    (refine BM (GD Y Y (IntWalk.i64_in _ ?_)) ?_;(focus (omega)))
    refine Zh 4 underlying30 rfl rfl sizeOf3 Y<|Xe (Zs sizeOf3 Y Y rfl (hi:=by first|omega|decide|(simp;done))) ?_;refine Z0<|Zn [1,2,3] ?_;refine BA (e':=[]) (by(have h9:C9 (q1.tdiv 9) 4=3:=k2;exact ⟨((C9 q2 14:Int) -2)*3 -20,((C9 q2 14:Int) -2+(C9 q3 14:Int))*3 -20,⟨by omega,by omega,by omega⟩,rfl,rfl⟩))
   refine AB<|Zn [1,2,3] ?_;refine BA (e':=[]) (by exact ⟨(C9 q2 14:Int) -2,(C9 q2 14:Int) -2+(C9 q3 14:Int),⟨by omega,by omega,by omega⟩,rfl,rfl⟩)
  rintro _ _ ⟨lo,hi,⟨hlo,hlh,hhi⟩,rfl,rfl⟩;refine Zb [1,2,3] ?_;refine CU (e0:=[]) (H0:=[[(bq,.cells #[I4 ((1+C9 q0 7:Nat):Int),I4 (C9 (q0.tdiv 7) 3:Int),I4 (C9 (q1.tdiv 9) 4:Int),I4 lo,I4 hi,I4 0,I4 0] 30 (0,0))]]) (fun e H=>∃(b9:Int),((3≤C9 q0 7∧1≤b9∧b9≤3)∨(C9 q0 7<3∧b9=0))∧e=[]∧H=[[(bq,.cells #[I4 ((1+C9 q0 7:Nat):Int),I4 (C9 (q0.tdiv 7) 3:Int),I4 (C9 (q1.tdiv 9) 4:Int),I4 lo,I4 hi,I4 b9,I4 0] 30 (0,0))]]) Wp ?hx_22 ?hy_22
  case hx_22=>
   refine Zq<|Zg<|Zh 0 underlying30 rfl rfl sizeOf3 Y<|Zl isAgg3 Y ?_;refine Zv (FW (n:=4) Y Y)<|Z0<|Zx ?_;refine Ao Y (fun k3=>?_) (fun k3=>?_)
   ·
    refine Zg ?_;refine BM (BG (j:=4) underlying23 sizeOf3 Y Y (by first|omega|decide|(simp;done))) ?_;refine Zl isAgg3 Y ?_;refine Xr [_,_] Y call106 Y rfl (Ke q4 3 (by decide) (by decide) hq41 hq42) ?_;refine Ya (m:=1) Y Y<|Zh 5 underlying30 rfl rfl sizeOf3 Y<|Xe (Zs sizeOf3 Y Y rfl (hi:=by first|omega|decide|(simp;done))) ?_;refine Z0<|Zn [1,2,3] ?_;refine BA (e':=[]) (by exact ⟨((1+C9 q4 3:Nat):Int),.inl ⟨by omega,by omega,by omega⟩,rfl,rfl⟩)
   refine AB<|Zn [1,2,3] ?_;refine BA (e':=[]) (by exact ⟨0,.inr ⟨by omega,rfl⟩,rfl,rfl⟩)
  rintro _ _ ⟨b9,hb9,rfl,rfl⟩;refine Zb [1,2,3] ?_;refine CU (e0:=[(1,_)]) (H0:=[[(bq,.cells #[I4 ((1+C9 q0 7:Nat):Int),I4 (C9 (q0.tdiv 7) 3:Int),I4 (C9 (q1.tdiv 9) 4:Int),I4 lo,I4 hi,I4 b9,I4 0] 30 (0,0))]]) (fun e H=>∃(b8 o8:Int),(BN ⟨((1+C9 q0 7:Nat):Int),(C9 (q0.tdiv 7) 3:Int),(C9 (q1.tdiv 9) 4:Int),lo,hi,b8,o8⟩)∧e=[]∧H=[[(bq,.cells #[I4 ((1+C9 q0 7:Nat):Int),I4 (C9 (q0.tdiv 7) 3:Int),I4 (C9 (q1.tdiv 9) 4:Int),I4 lo,I4 hi,I4 b8,I4 o8] 30 (0,0))]]) Wp ?hx_25 ?hy_25
  case hx_25=>
   refine Zq<|Zg<|Zh 0 underlying30 rfl rfl sizeOf3 Y<|Zl isAgg3 Y ?_;refine Zv (C8 (n:=7) Y Y)<|Z0<|Zx ?_;refine Ao Y (fun k4=>?_) (fun k4=>?_)
   ·
    refine Zq<|Zg ?_;refine BM (BG (j:=4) underlying23 sizeOf3 Y Y (by first|omega|decide|(simp;done))) ?_;refine Zl isAgg3 Y ?_;refine Zv (TN (m:=q4) (n:=3) Y Y (by decide) (IntWalk.i64_in _ (by have:=H9 3 (by decide) hq41 hq42;omega))) ?_;refine Xr [_,_] Y call106 Y rfl (Ke (q4.tdiv 3) 3 (by decide) (by decide) htq43.1 htq43.2) ?_;refine Zh 6 underlying30 rfl rfl sizeOf3 Y<|Xe (Zs sizeOf3 Y Y rfl (hi:=by first|omega|decide|(simp;done))) ?_;refine Z0<|Zx<|Zq<|Zg ?_;refine BM (BG (j:=4) underlying23 sizeOf3 Y Y (by first|omega|decide|(simp;done))) ?_;refine Zl isAgg3 Y ?_;refine Zv (TN (m:=q4) (n:=9) Y Y (by decide) (IntWalk.i64_in _ (by have:=H9 9 (by decide) hq41 hq42;omega))) ?_;refine Xr [_,_] Y call106 Y rfl (Ke (q4.tdiv 9) 3 (by decide) (by decide) htq49.1 htq49.2) ?_;refine Zv (D7 (n:=0) Y Y)<|Z0<|Zn [2,3,75] ?_;refine Zx ?_;refine Ao Y (fun k5=>?_) (fun k5=>?_)
    ·
     refine Zg<|Zh 5 underlying30 rfl rfl sizeOf3 Y<|Xe (Zs sizeOf3 Y Y rfl (hi:=by first|omega|decide|(simp;done))) ?_;refine Z0<|Zn [2,3] ?_;refine BA (e':=[]) (by(have h9:0<C9 (q4.tdiv 9) 3:=k5;exact ⟨2,(C9 (q4.tdiv 3) 3:Int),LZ (by omega),rfl,rfl⟩))
    refine AB<|Zn [2,3] ?_;refine BA (e':=[]) (by(have h9:1+C9 q0 7=7:=k4;exact ⟨b9,(C9 (q4.tdiv 3) 3:Int),LZ (by omega),rfl,rfl⟩))
   refine AB<|Zn [2,3] ?_;refine BA (e':=[]) (by exact ⟨b9,0,LZ (by omega),rfl,rfl⟩)
  rintro _ _ ⟨b8,o8,hv,rfl,rfl⟩;refine Zq<|Zg<|Zo Wh (AY (cs:=#[_,_,_,_,_,_,_]) isAgg30 sizeOf30 Y Wb (by exact Av rfl)) ?_;refine Xe (BP sizeOf30 Y Y (by(simp [Value.oneCell'];done)) Wu (by exact DY rfl) (by first|rfl|(simp;done)) Wb (by exact BR _)) ?_;refine Z0<|Zx<|A9 ?_;refine DD rfl results45 Y Wh (Ah isAgg30 sizeOf30 Wn (Av rfl)) (by exact ⟨⟨_,_,_,_,_,_,_⟩,hv,rfl,rfl⟩)
 exact Ar
theorem qy{M:List AR}{v:Value}{xs:List (List Int)}(hX:Nk M v xs):CF Tryz.prog 44 #[v] [M] (fun r H'=>∃(l:List Bt) (s:List AR),DZ l∧l.length≤20∧Dx s r l∧H'=[s,M]):=by
 have hml:=mL;obtain ⟨py,capy,rfl,hyl,hgy⟩:=id hX;have hX2:=gY hX (min xs.length 20) (Nat.min_le_left _ _)
 have hyk:(xs.take (min xs.length 20)).length≤20:=by rw [tL];omega
 refine Se func44 ntmps44 [0] ?_;intro u R;refine Zq<|Zg<|Za Y<|Z0<|Zx<|Zq<|Zg<|Zm Y<|Zm Y<|Zv (AU underlying22 Y)<|Zv (OJ (n:=20) Y Y) ?_;refine BM (Bi underlying22 sizeOf217 Y Y (by first|omega|(simp;omega))) ?_;refine Zc [_] Y call105 Y rfl (pF hX2 (by omega)) ?_;rintro _ _ ⟨_,⟨l,sl,hlog,hll,hRI,rfl⟩,rfl⟩;refine Za Y<|Z0<|Zx<|A9 ?_;refine AC rfl results44 Y (by exact ⟨l,sl,hlog,by omega,hRI,rfl⟩)
set_option maxHeartbeats 1000000 in
theorem Vn{M:List AR}{v:Value}{xs:List (List Int)}(hX:Nk M v xs)(q0 q1 q2 q3 q4 cb cu:Int)(hq01:-9223372036854775808≤q0)(hq02:q0≤9223372036854775807)(hq11:-9223372036854775808≤q1)(hq12:q1≤9223372036854775807)(hq21:-9223372036854775808≤q2)(hq22:q2≤9223372036854775807)(hq31:-9223372036854775808≤q3)(hq32:q3≤9223372036854775807)(hq41:-9223372036854775808≤q4)(hq42:q4≤9223372036854775807)(hcb1:-9223372036854775808≤cb)(hcb2:cb≤9223372036854775807)(hcu1:-9223372036854775808≤cu)(hcu2:cu≤9223372036854775807)(tw:Value):CF Tryz.prog 12 #[.agg #[v,I4 q0,I4 q1,I4 q2,I4 q3,I4 q4,I4 cb,I4 cu,tw]] [M] (fun r H'=>∃(l:List Bt) (p:Option Addr) (cap:Nat) (s:List AR) (q:QM) (a b:Nat),DZ l∧l.length≤20∧Dx s (.slice p l.length cap) l∧BN q∧a≤b∧b≤l.length∧r= .tuple #[.slice p l.length cap,.agg #[I4 q.kd,I4 q.tb,I4 q.cl,I4 q.lo,I4 q.hi,I4 q.bq,I4 q.ot],I4 (a:Int),I4 (b:Int)]∧H'=[s,M]):=by
 have hml:=mL;obtain ⟨py,capy,rfl,hyl,hgy⟩:=id hX;refine Se func12 ntmps12 [0] ?_;intro u R;refine Zq<|Zg<|Ze (Bx #[.slice py xs.length capy,I4 q0,I4 q1,I4 q2,I4 q3,I4 q4,I4 cb,I4 cu,tw]) ?_;rintro _ _ ⟨bc,rfl,rfl⟩;refine Za Y<|Ze (Al zeroValue30 #[_,_,_,_,_,_,_]) ?_;rintro _ _ ⟨bq,rfl,rfl⟩;refine Za Y<|Za Y<|Z0<|Zx<|Zq<|Zg<|Zh 0 underlying26 rfl rfl sizeOf22 Y<|Zl isAgg22 Y ?_;refine Zc [_] Y call44 Y rfl (qy hX) ?_;rintro _ _ ⟨_,⟨l,sl,hlog,hll,hRI,rfl⟩,rfl⟩;obtain ⟨pl,cl,rfl,hl1,hl2⟩:=id hRI;refine Za Y<|Z0<|Zx<|Zq<|Zg<|Zh 6 underlying26 rfl rfl sizeOf3 Y<|Zl isAgg3 Y ?_;refine Zm Y<|Zv (AU underlying28 Y)<|Ya (n:=1) Y Y<|Xr [_,_] Y call32 Y rfl (iW cb (l.length+1) (by omega) (by omega) hcb1 hcb2) ?_;obtain ⟨a,ha⟩:∃a,a=C9 cb (l.length+1):=⟨_,rfl⟩;rw [←ha];have hal:=FN cb (l.length+1) (by omega)
 rw [←ha]at hal;refine Za Y<|Z0<|Zn [1,3,6,7] ?_;refine Zx<|Zq<|BJ (n:=19) (0::0::2::6::0::0::0::64::0::256::0::1792::3840::8142::16366::16335::49103::114655::262143::[]) 73736 (by kernel_rfl) (by kernel_rfl) rfl ?_;refine Zi 1 0 rfl (AJ Y)<|Zi 3 1 rfl (AX (off:=1) underlying26 rfl rfl sizeOf23 Y)<|DU (D':=7) 2 rfl rfl rfl Wh (Pa #[_,_,_,_,_] isAgg23 sizeOf23 Y) ?_;refine Zi 23 4 rfl (AJ Y)<|Zi 55 5 rfl (AJ Y)<|Zi 119 6 rfl (AX (off:=7) underlying26 rfl rfl sizeOf3 Y)<|Zj 247 7 rfl isAgg3 Y ?_;refine Zi 503 8 rfl (AJ Y)<|Zi 1015 9 rfl (AU underlying28 Y)<|Zi 2039 10 rfl (AJ Y) ?_
 (refine E8 (D':=4087) 11 (Bh Y Y ?_ ?_) ?_;(focus (omega));(focus (omega)))
 refine Zi 8183 12 rfl (D9 (n:=1) Y Y (by omega)) ?_;refine Zz (l:=[3]) ?_;refine Zy 6 8191 [7,2] [true,false] [(7,(_,_))] rfl Y rfl rfl rfl rfl (Zw [_] Y call45 Y rfl (pG q0 q1 q2 q3 q4 hq01 hq02 hq11 hq12 hq21 hq22 hq31 hq32 hq41 hq42)) ?hk_1 Ck ?hl_1
 case hk_1=>
  rintro _ _ ⟨_,⟨q,hq,rfl,rfl⟩,rfl⟩;refine ⟨Zk (Ad),?_⟩;refine Yw 13 16383 rfl (Zu [_,_] Y call32 Y rfl (iW cu (l.length -a+1) (by omega) (by omega) hcu1 hcu2)) ?_;rintro _ _ ⟨rfl,rfl⟩;obtain ⟨d,hd⟩:∃d,d=C9 cu (l.length -a+1):=⟨_,rfl⟩;rw [←hd];have hdl:=FN cu (l.length -a+1) (by omega)
  rw [←hd]at hdl;refine Zi 32767 14 rfl (D9 Y Y (by omega)) ?_;refine Zi 65535 15 rfl (Ay Y)<|Zz (l:=[16]) ?_;refine Zy 49103 131071 [] [] [] rfl Y rfl rfl rfl rfl (BP sizeOf30 Y Y (by(simp [Value.oneCell'];done)) Wu (by exact DY rfl) (by first|rfl|(simp;done)) Wb (by exact BR _)) ?hk_3 (fun _ _ h=>h.elim) ?hl_3
  case hk_3=>
   rintro _ _ ⟨rfl,rfl⟩;refine ⟨Ad,?_⟩;refine Zi 262143 17 rfl (Ay Y)<|Zi 524287 18 rfl (Ay Y)<|Am ?_;refine Zn [2,3,4,5] ?_;refine Zx<|A9 ?_;refine Y5 rfl results12 Y Y Wh (Ah isAgg30 sizeOf30 Wn (Av rfl)) Y Y (by exact ⟨l,pl,cl,sl,q,a,a+d,hlog,hll,hRI,hq,by omega,by omega,rfl,rfl⟩)
  exact Ar
 exact Ar
set_option maxHeartbeats 2000000 in
theorem fG{M:List AR}{p:Option Addr}{cap:Nat}{l:List Bt}(hRI:Dx M (.slice p l.length cap) l)(hlog:DZ l)(hll:l.length≤20)(a b:Nat)(hab:a≤b)(hb:b≤l.length)(q:QM)(hq:BN q)(Tg:TypeId)(zg:Nat×Nat):CF Tryz.prog 29 #[.slice p l.length cap,I4 (a:Int),I4 (b:Int),.agg #[I4 q.kd,I4 q.tb,I4 q.cl,I4 q.lo,I4 q.hi,I4 q.bq,I4 q.ot]] [[(1,.cells (Cw.map Bn).toArray Tg zg)],M] (fun w H'=>∃(z:K5) (s mem:List AR) (t:Bool) (pg:Option Addr) (cg:Nat),((t=true∧De l a b q=some z.a∧z.ok (s++mem++M))∨(t=false∧De l a b q=none))∧Gs mem (.slice pg (Ef (Bc (l.take a)) q).length cg) (Ef (Bc (l.take a)) q)∧w= .tuple #[.agg #[I4 q.kd,I4 q.tb,I4 q.cl,I4 q.lo,I4 q.hi,I4 q.bq,I4 q.ot,I4 0,I4 (a:Int),.slice pg (Ef (Bc (l.take a)) q).length cg],.agg #[I4 z.a.q.kd,I4 z.a.q.tb,I4 z.a.q.cl,I4 z.a.q.lo,I4 z.a.q.hi,I4 z.a.q.bq,I4 z.a.q.ot,.slice z.rp z.a.res.rows.length z.rc,I4 z.a.res.val,.bool z.a.res.fnd,I4 z.a.since,I4 z.a.until_,I4 z.a.base,.slice z.gp z.a.ranges.length z.gc,.slice z.cp z.a.recs.length z.cc],.bool t]∧H'=[s,mem,[(1,.cells (Cw.map Bn).toArray Tg zg)],M]):=by
 have hml:=mL;obtain ⟨p9,cap9,e9,⟨hl1,hl2⟩,_⟩:=id hRI;injection e9 with e91 e92 e93
 subst e91 e93;obtain ⟨hs,hn⟩:=hlog.rows a (by omega);have hok:=hlog.rowsOk a (by omega)
 have hscan:=Em hlog hll (by omega:a≤l.length) q;have hst:=F3 hs hn hok hq hscan
 have hmk:=Jq (Bc (l.take a)) q;obtain ⟨L,hL⟩:∃L,L=Ef (Bc (l.take a)) q:=⟨_,rfl⟩;have hbt:De l a b q=EO q (a:Int) L (ER l a b):=by unfold De;rw [←hL]
 rw [←hL]at hst hmk⊢;refine Se func29 ntmps29 [0,1,2,3] ?_;intro u R;refine Zq<|Zg<|Ze (Bx #[I4 q.kd,I4 q.tb,I4 q.cl,I4 q.lo,I4 q.hi,I4 q.bq,I4 q.ot]) ?_;rintro _ _ ⟨bq,rfl,rfl⟩;refine Ze (Al zeroValue57 #[_,_,_,_,_,_,_,_,_,_]) ?_;rintro _ _ ⟨be,rfl,rfl⟩;refine Ze (Al zeroValue53 #[_,_,_,_,_,_,_,_,_,_,_,_,_,_,_]) ?_;rintro _ _ ⟨ba,rfl,rfl⟩;refine Za Y<|Z0<|Zx<|Zq<|Zg<|Zm Y<|Zm Y<|Zc [_,_] Y call13 Y rfl (kw hRI hlog (by omega) a (by omega)) ?_;rintro _ _ ⟨_,⟨vs,ss,rfl,hS,rfl⟩,rfl⟩;refine Zm Y<|Zd Y rfl<|Zd Y rfl<|Za Y<|Za Y<|Z0<|Zx<|Zq<|Zq<|Zg<|Zm Y<|Zv (DN (n:=0) Y Y)<|Z0<|Zn [0,1,2,7,8,9,11,25] ?_;refine Zx ?_;refine Ao Y (fun hb0=>?_) (fun hb0=>?_)
 ·
  exact absurd rfl hb0
 refine AB<|Zx<|Zq<|Zg<|Zm Y<|Zo Wh (AY (cs:=#[_,_,_,_,_,_,_]) isAgg30 sizeOf30 Y Wb (by exact Av rfl)) ?_;refine Zc [_,_] Y call15 Y rfl (jN _ _ _ _ hS hs hn hok q hq hscan Tg zg) ?_;rintro _ _ ⟨_,⟨vo,mem,rfl,hRP,rfl⟩,rfl⟩;rw [←hL]at hRP;obtain ⟨pg,cg,rfl,hg1,hg2⟩:=hRP.form;refine Zm Y<|Zd Y rfl<|Zd Y rfl<|Za Y<|Za Y<|Z0<|Zx<|Zq<|Zg<|Zo Wh (AY (cs:=#[_,_,_,_,_,_,_]) isAgg30 sizeOf30 Y Wb (by exact Av rfl)) ?_;refine Zm Y<|Zm Y<|Zv (BK (vs:=[(0,.agg #[I4 q.kd,I4 q.tb,I4 q.cl,I4 q.lo,I4 q.hi,I4 q.bq,I4 q.ot]),(2,I4 (a:Int)),(3,.slice pg L.length cg)]) (cs:=#[I4 q.kd,I4 q.tb,I4 q.cl,I4 q.lo,I4 q.hi,I4 q.bq,I4 q.ot,I4 0,I4 (a:Int),.slice pg L.length cg]) Y (Aa (pl:=#[(0,7),(7,1),(8,1),(9,1)]) zeroValue57 underlying57 (fun _=>by kernel_rfl) (by kernel_rfl))) ?_;refine Ze (Al zeroValue57 #[_,_,_,_,_,_,_,_,_,_]) ?_;rintro _ _ ⟨bx,rfl,rfl⟩;refine Xe (Xw sizeOf57 #[I4 q.kd,I4 q.tb,I4 q.cl,I4 q.lo,I4 q.hi,I4 q.bq,I4 q.ot,I4 0,I4 (a:Int),.slice pg L.length cg]) ?_;refine Z0<|Zn [0,1,2,8,9,14,15] ?_;refine Zx<|Zb [0,1,2,8,9,14,15] ?_;refine CU (e0:=[(0,_),(1,_),(2,_)]) (H0:=[mem,M]) (fun e H=>∃(z:K5) (s:List AR) (t:Bool) (bz:Nat),((t=true∧EO q (a:Int) L (ER l a b)=some z.a∧z.ok (s++mem++M))∨(t=false∧EO q (a:Int) L (ER l a b)=none))∧e=[(16,I5 bz),(17,.bool t)]∧H=[[(bz,.cells #[I4 z.a.q.kd,I4 z.a.q.tb,I4 z.a.q.cl,I4 z.a.q.lo,I4 z.a.q.hi,I4 z.a.q.bq,I4 z.a.q.ot,.slice z.rp z.a.res.rows.length z.rc,I4 z.a.res.val,.bool z.a.res.fnd,I4 z.a.since,I4 z.a.until_,I4 z.a.base,.slice z.gp z.a.ranges.length z.gc,.slice z.cp z.a.recs.length z.cc] 53 (0,0))],s,mem,M]) Wp ?hx_1 ?hy_1
 case hx_1=>
  refine BJ (n:=12) (0::0::0::0::14::31::63::127::127::0::767::2047::[]) 1568 (by kernel_rfl) (by kernel_rfl) rfl ?_;refine DU (D':=1) 0 rfl rfl rfl Wh (AY (cs:=#[I4 q.kd,I4 q.tb,I4 q.cl,I4 q.lo,I4 q.hi,I4 q.bq,I4 q.ot,I4 0,I4 (a:Int),.slice pg L.length cg]) isAgg57 sizeOf57 Y (by exact tQ _) (by exact Av rfl)) ?_;refine Zi 3 1 rfl (AJ Y)<|Zi 7 2 rfl (AJ Y)<|Zi 15 3 rfl (AJ Y) ?_
  (refine E8 (D':=31) 4 (JX underlying28 sizeOf73 Y Y Y ?_ ?_) ?_;(focus (omega));(focus (omega)))
  refine Zz (l:=[5,9]) ?_;refine Zy 31 63 [0] [false] [] rfl Y rfl rfl rfl rfl (Zw [_,_] Y call18 Y rfl (K3 q 0 (a:Int) (by omega) (hRP.mono (fun c hc=>u6 M hc)) (by omega) hst (Ex (Jf hRI hab hb) (fun c hc=>tZ mem hc)) (Iu hlog a b))) ?hk_2 Ck ?hl_2
  case hk_2=>
   rintro _ _ ⟨_,⟨z,s,t,hz,rfl,rfl⟩,rfl⟩;refine ⟨Ad,?_⟩;refine Zi 127 6 rfl (AJ Y)<|Zi 255 7 rfl (CP Y rfl)<|Zi 511 8 rfl (CP Y rfl)<|Zz (l:=[9]) ?_;refine Zy 0 1023 [] [] [] rfl Y rfl rfl rfl rfl (Al zeroValue53 #[_,_,_,_,_,_,_,_,_,_,_,_,_,_,_]) ?hk_3 (fun _ _ h=>h.elim) ?hl_3
   case hk_3=>
    rintro _ _ ⟨bz,rfl,rfl⟩;refine ⟨Ad,?_⟩;refine Yw 10 2047 rfl (Xw sizeOf53 #[I4 z.a.q.kd,I4 z.a.q.tb,I4 z.a.q.cl,I4 z.a.q.lo,I4 z.a.q.hi,I4 z.a.q.bq,I4 z.a.q.ot,.slice z.rp z.a.res.rows.length z.rc,I4 z.a.res.val,.bool z.a.res.fnd,I4 z.a.since,I4 z.a.until_,I4 z.a.base,.slice z.gp z.a.ranges.length z.gc,.slice z.cp z.a.recs.length z.cc]) ?_;rintro _ _ ⟨rfl,rfl⟩;refine Zi 4095 11 rfl (Ay Y)<|Am ?_;refine Zn [16,17,8,9,14,15] ?_;refine BA (e':=[(16,_),(17,_)]) (by exact ⟨z,s,t,bz,hz,rfl,rfl⟩)
   exact Ar
  refine Zy 0 543 [0] [true] [(0,(_,_))] rfl Y rfl rfl rfl rfl (Al zeroValue53 #[_,_,_,_,_,_,_,_,_,_,_,_,_,_,_]) ?hk_6 (fun _ _ h=>h.elim) ?hl_6
  case hk_6=>
   rintro _ _ ⟨bz,rfl,rfl⟩;refine ⟨Zk (Ad),?_⟩;refine Zz (l:=[5]) ?_;refine Zy 31 575 [0] [false] [] rfl Y rfl rfl rfl rfl (Zw [_,_] Y call18 Y rfl (K3 q 0 (a:Int) (by omega) (hRP.mono (fun c hc=>u6 M hc)) (by omega) hst (Ex (Jf hRI hab hb) (fun c hc=>tZ mem hc)) (Iu hlog a b))) ?hk_7 Ck ?hl_7
   case hk_7=>
    rintro _ _ ⟨_,⟨z,s,t,hz,rfl,rfl⟩,rfl⟩;refine ⟨Ad,?_⟩;refine Zi 639 6 rfl (AJ Y)<|Zi 767 7 rfl (CP Y rfl)<|Zi 1023 8 rfl (CP Y rfl)<|Zz (l:=[10]) ?_;refine Zy 767 2047 [] [] [] rfl Y rfl rfl rfl rfl (Xw sizeOf53 #[I4 z.a.q.kd,I4 z.a.q.tb,I4 z.a.q.cl,I4 z.a.q.lo,I4 z.a.q.hi,I4 z.a.q.bq,I4 z.a.q.ot,.slice z.rp z.a.res.rows.length z.rc,I4 z.a.res.val,.bool z.a.res.fnd,I4 z.a.since,I4 z.a.until_,I4 z.a.base,.slice z.gp z.a.ranges.length z.gc,.slice z.cp z.a.recs.length z.cc]) ?hk_8 (fun _ _ h=>h.elim) ?hl_8
    case hk_8=>
     rintro _ _ ⟨rfl,rfl⟩;refine ⟨Ad,?_⟩;refine Zi 4095 11 rfl (Ay Y)<|Am ?_;refine Zn [16,17,8,9,14,15] ?_;refine BA (e':=[(16,_),(17,_)]) (by exact ⟨z,s,t,bz,hz,rfl,rfl⟩)
    exact Ar
   exact Ar
  exact Ar
 rintro _ _ ⟨z,s,t,bz,hz,rfl,rfl⟩;refine Zq<|BJ (n:=10) (0::0::0::4::12::28::60::29::159::511::[]) 384 (by kernel_rfl) (by kernel_rfl) rfl ?_;refine DU (D':=1) 0 rfl rfl rfl Wh (AY (cs:=#[_,_,_,_,_,_,_,_,_,_]) isAgg57 sizeOf57 Y Wb (by exact Av rfl)) ?_;refine DU (D':=3) 1 rfl rfl rfl Wh (AY (cs:=#[_,_,_,_,_,_,_,_,_,_,_,_,_,_,_]) isAgg53 sizeOf53 Y Wb (by exact Av rfl)) ?_;refine Zi 7 2 rfl (AJ Y)<|Zi 15 3 rfl (C8 (n:=0) Y Y)<|Zi 31 4 rfl (AJ Y) ?_;refine CR (t:=51) Y (fun hb2=>?_) (fun hb2=>?_)
 ·
  first|rw [decide_eq_true hb2]|rw [hb2]|skip
  refine Ag (D':=63) 5 Y rfl rfl rfl (AJ Y) ?_;refine Zi 127 6 rfl (AL Y Y)<|Zz (l:=[7]) ?_;refine Zy 29 255 [1,0] [true,false] [(1,(_,_))] rfl Y rfl rfl rfl rfl (BP sizeOf57 Y Y (by(simp [Value.oneCell'];done)) Wu (by exact DY rfl) (by first|rfl|(simp;done)) Wb (by exact BR _)) ?hk_10 (fun _ _ h=>h.elim) ?hl_10
  case hk_10=>
   rintro _ _ ⟨rfl,rfl⟩;refine ⟨Zk (Ad),?_⟩;refine Yw 8 511 rfl (BP sizeOf53 Y Y (by(simp [Value.oneCell'];done)) Wu (by exact DY rfl) (by first|rfl|(simp;done)) Wb (by exact BR _)) ?_;rintro _ _ ⟨rfl,rfl⟩;refine Zi 1023 9 rfl (Ay Y)<|Am ?_;refine Zx<|A9 ?_;refine dH rfl results29 Y Y Y Wh Wh (Ah isAgg57 sizeOf57 Wn (Av rfl)) (Ah isAgg53 sizeOf53 Wn (Av rfl)) (by exact ⟨z,s,mem,t,pg,cg,by rw [hbt];exact hz,hRP,rfl,rfl⟩)
  exact Ar
 first|rw [decide_eq_false hb2]|rw [hb2]|skip
 exact absurd rfl hb2
theorem aV{M:List AR}{p:Option Addr}{cap:Nat}{l:List Bt}(hRI:Dx M (.slice p l.length cap) l)(hlog:DZ l)(hll:l.length≤20)(a b:Nat)(hab:a≤b)(hb:b≤l.length)(q:QM)(hq:BN q)(Tg:TypeId)(zg:Nat×Nat):CF Tryz.prog 29 #[.slice p l.length cap,I4 (a:Int),I4 (b:Int),.agg #[I4 q.kd,I4 q.tb,I4 q.cl,I4 q.lo,I4 q.hi,I4 q.bq,I4 q.ot]] [[(1,.cells (Cw.map Bn).toArray Tg zg)],M] (fun w H'=>∃(z:K5) (E:List AR) (t:Bool) (pg:Option Addr) (cg:Nat),((t=true∧De l a b q=some z.a∧z.ok (E++M))∨(t=false∧De l a b q=none))∧Gs (E++M) (.slice pg (Ef (Bc (l.take a)) q).length cg) (Ef (Bc (l.take a)) q)∧w= .tuple #[.agg #[I4 q.kd,I4 q.tb,I4 q.cl,I4 q.lo,I4 q.hi,I4 q.bq,I4 q.ot,I4 0,I4 (a:Int),.slice pg (Ef (Bc (l.take a)) q).length cg],.agg #[I4 z.a.q.kd,I4 z.a.q.tb,I4 z.a.q.cl,I4 z.a.q.lo,I4 z.a.q.hi,I4 z.a.q.bq,I4 z.a.q.ot,.slice z.rp z.a.res.rows.length z.rc,I4 z.a.res.val,.bool z.a.res.fnd,I4 z.a.since,I4 z.a.until_,I4 z.a.base,.slice z.gp z.a.ranges.length z.gc,.slice z.cp z.a.recs.length z.cc],.bool t]∧H'=[E,[(1,.cells (Cw.map Bn).toArray Tg zg)],M]):=by
 refine ED (fG hRI hlog hll a b hab hb q hq Tg zg) rfl ?_;rintro w H' ⟨z,s,mem,t,pg,cg,h1,h2,rfl,rfl⟩;exact ⟨_,⟨z,s++mem,t,pg,cg,h1,h2.mono (fun c hc=>u6 _ (tZ _ hc)),rfl,rfl⟩,by simp⟩
theorem bF{q:QM}{l:List Bt}{a b:Nat}{st st2:CO×Int}(h:Gi q (a:Int) 0 st (ER l a b)=some st2):Gi q (a:Int) 0 st ((l.drop a).take (b -a))=some st2:=h
theorem Fw{l:List Bt}(hl:DZ l)(h20:l.length≤20){a b:Nat}(hab:a≤b)(hb:b≤l.length){q:QM}(hq:BN q){x:Mm}(h:De l a b q=some x):x=⟨q,Cy (Bc (l.take b)) q,x.since,(b:Int),(a:Int),Ef (Bc (l.take a)) q,ER l a b⟩∧lD q l a (b -a) x.since:=by
 obtain ⟨hs,hn⟩:=hl.rows a (by omega);have hst:=F3 hs hn (hl.rowsOk a (by omega)) hq (Em hl h20 (by omega) q)
 have hpl:=OB (l:=l) (a:=a) hb;unfold De at h;rw [Ik hst (by omega)]at h;cases hr:Gi q (a:Int) 0 (Cy (Bc (l.take a)) q,(a:Int)) (ER l a b)with
 |none=>rw [hr]at h;cases h
 |some st=>
  rw [hr]at h;injection h with h
  obtain ⟨e1,e2⟩:=Sd hq hl (by omega:a≤l.length) (b -a) (by omega) st (bF hr);rw [show a+(b -a)=b by omega]at e1;subst h;refine ⟨?_,e2⟩;simp only [hpl,e1];congr 1;omega
theorem mi{l:List Bt}(hl:DZ l){a b:Nat}(hb:b≤l.length)(hll:l.length≤20):∀(k:Nat) (x:Bt),(ER l a b)[k]?=some x→(a:Int)≤9223372036854775806 -((0+k:Nat):Int)∧x.p=(a:Int)+1+((0+k:Nat):Int):=fun k x hk=>by
 obtain ⟨h1,h2⟩:=Vs hk;have h3:x.p=((a+k:Nat):Int)+1:=(hl _ x h1).1.pos
 have h4:=(tH.1 h1).1;exact ⟨by omega,by rw [h3];push_cast;omega⟩
theorem LG{l:List Bt}(hl:DZ l)(h20:l.length≤20){a b:Nat}(hab:a≤b)(hb:b≤l.length){q:QM}(hq:BN q)(hk:1≤q.kd∧q.kd≤4):De l a b q≠none:=by
 obtain ⟨hs,hn⟩:=hl.rows a (by omega);have hst:=F3 hs hn (hl.rowsOk a (by omega)) hq (Em hl h20 (by omega) q)
 have hpl:=OB (l:=l) (a:=a) hb;obtain ⟨st,hst2⟩:=Q7 hk (ER l a b) 0 (Cy (Bc (l.take a)) q,(a:Int)) (mi hl hb h20);unfold De;rw [Ik hst (by omega),hst2];exact fun h=>by cases h
theorem WC{rs:List AP}(hs:BI rs)(hn:rs.length≤2000)(q:QM):∀x∈Ef rs q,x.small:=fun x hx=>by
 unfold Ef at hx;rcases uJ.1 hx with rfl|hx
 · exact ⟨Ot hs hn _ _ _ _,Ou hs hn _ _ _ _⟩
 · split at hx
   · obtain ⟨r,_,rfl⟩:=uh.1 hx
     exact ⟨Ot hs hn _ _ _ _,Ou hs hn _ _ _ _⟩
   · cases hx
theorem dN{rs:List AP}(hs:BI rs)(hn:rs.length≤2000)(hok:∀r∈rs,r.ok){q:QM}(hq:BN q):∀x∈Ef rs q,Ni (Db rs) x:=fun x hx=>by
 have h1:=hq.1;have h2:=hq.2.1
 have h3:=hq.2.2.1.2.1;have h4:0≤q.ot∧q.ot≤3:=by have:=hq.2.2.2;omega
 unfold Ef at hx;rcases uJ.1 hx with rfl|hx
 · exact SK hs hn hok _ _ (by omega) (by omega) _ _ h3
 · split at hx
   · obtain ⟨r,_,rfl⟩:=uh.1 hx
     exact SK hs hn hok _ _ (by omega) (by omega) _ _ (zX _)
   · cases hx
theorem Pi{l:List Bt}(hl:DZ l)(h9:l.length≤9000){st:Bs}(hst:st.length=32){a:Nat}:∀k,a+k≤l.length→∃h,IG st (EL l a) ((l.drop a).take k)=some h∧h.p=((a+k:Nat):Int)∧h.ch=(EL l (a+k)).ch∧h.ok∧(k=0→h=EL l a)∧(0<k→h.st=st)
 |0,hk=>by
  obtain ⟨h1,h2,_⟩:=J3 hl h9 a (by omega);exact ⟨EL l a,by rw [uo];rfl,h2,rfl,h1,fun _=>rfl,fun h=>by omega⟩
 |k+1,hk=>by
  obtain ⟨h,e1,e2,e3,e4,_,_⟩:=Pi hl h9 hst (a:=a) k (by omega);obtain ⟨r,hr⟩:∃r,l[a+k]?=some r:=⟨_,tF (by omega)⟩;have hr2:(l.drop a)[k]?=some r:=by rw [ut];exact hr
  obtain ⟨ha,_⟩:=hl _ r hr;have hp:r.p=((a+k:Nat):Int)+1:=ha.pos
  have hnx:FR h r st:=⟨ha.ok,e4,hst,by rw [e2];exact hp⟩;refine ⟨GI h r st,by rw [MH e1 hr2,if_pos hnx],by show r.p=_;rw [hp];rfl,?_,⟨⟨by show 0≤r.p;omega,by show r.p≤10000;omega⟩,P8 _ _,hst⟩,fun h=>by omega,fun _=>rfl⟩;show Mj h.ch _=_
  rw [e3,show a+(k+1)=a+k+1 by omega,KN hr];rfl
theorem WY{l:List Bt}(hl:DZ l)(h9:l.length≤9000){a b:Nat}(hab:a≤b)(hb:b≤l.length):J7 (EL l a) (ER l a b) (EL l b):=by
 obtain ⟨h1,_,_⟩:=J3 hl h9 a (by omega);obtain ⟨h2,h3,h4⟩:=J3 hl h9 b hb;obtain ⟨h,e1,e2,e3,e4,e5,e6⟩:=Pi hl h9 h2.2.2 (a:=a) (b -a) (by omega);refine ⟨h1,h2,?_⟩;unfold ER;rw [e1];rcases vI (b -a)with h0|h0
 · rw [e5 h0,show a=b by omega]
 · rw [show a+(b -a)=b by omega]at e2 e3
   exact congrArg some (aM.2 ⟨by rw [e2,h3],e3,e6 h0⟩)
theorem WZ{l:List Bt}(hl:DZ l)(h9:l.length≤9000){a b:Nat}(hab:a≤b)(hb:b≤l.length){u:Cr}(h:J7 (EL l a) (ER l a b) u):u.p=(b:Int):=by
 obtain ⟨w,e1,e2,_⟩:=Pi hl h9 h.2.1.2.2 (a:=a) (b -a) (by omega);have h3:=h.2.2
 unfold ER at h3;rw [e1]at h3;injection h3 with h3
 rw [←h3,e2];congr 1;omega
theorem Mm.eqv_refl(a:Mm):a.eqv a:=⟨rfl,rfl,rfl,rfl,rfl,rfl,rfl⟩
theorem LJ{l:List Bt}(hl:DZ l)(h20:l.length≤20){a b:Nat}(hab:a≤b)(hb:b≤l.length){q:QM}(hq:BN q){x:Mm}(h:De l a b q=some x):IE (EL l a) (EL l b) x:=by
 obtain ⟨hs,hn⟩:=hl.rows a (by omega);obtain ⟨e,_⟩:=Fw hl h20 hab hb hq h;have h2:=(J3 hl (by omega) b hb).2.1
 obtain ⟨_,h1,hst⟩:=J3 hl (by omega) a (by omega);unfold De at h;have hx:x.q=q∧x.base=(a:Int)∧x.ranges=Ef (Bc (l.take a)) q∧x.recs=ER l a b∧x.until_=(b:Int):=by rw [e];exact ⟨rfl,rfl,rfl,rfl,rfl⟩
 refine ⟨by rw [h1,hx.2.1],by rw [h2,hx.2.2.2.2],by rw [hx.2.2.2.1];exact WY hl (by omega) hab hb,fun y hy=>?_,x,by rw [hx.1,hx.2.1,hx.2.2.1,hx.2.2.2.1];exact h,x.eqv_refl⟩;rw [hst];exact dN hs hn (hl.rowsOk a (by omega)) hq y (by rw [←hx.2.2.1];exact hy)
theorem Yc{l:List Bt}(hl:DZ l)(h20:l.length≤20){a b:Nat}(hab:a≤b)(hb:b≤l.length){q:QM}(hq:BN q){x y:Mm}(h:De l a b q=some x)(hy:y.q=x.q∧y.base=x.base∧y.ranges=x.ranges∧y.recs=x.recs){u:Cr}:IE (EL l a) u y→y.eqv x∧u.p=y.until_∧u.p=(b:Int):=fun hc=>by
 obtain ⟨e,_⟩:=Fw hl h20 hab hb hq h;have hx:x.q=q∧x.base=(a:Int)∧x.ranges=Ef (Bc (l.take a)) q∧x.recs=ER l a b:=by rw [e];exact ⟨rfl,rfl,rfl,rfl⟩
 obtain ⟨_,h2,h3,_,z,h5,h6⟩:=hc;rw [hy.1,hy.2.1,hy.2.2.1,hy.2.2.2,hx.1,hx.2.1,hx.2.2.1,hx.2.2.2]at h5;unfold De at h;rw [h]at h5;injection h5 with h5
 subst h5;rw [hy.2.2.2,hx.2.2.2]at h3;exact ⟨h6,h2,WZ hl (by omega) hab hb h3⟩
def exC(k n:Int):Chg:=⟨0,k,false,⟨0,0,0⟩,true,⟨n,0,0⟩⟩
def exL(p1 p2 p3:Option Addr):List Bt:=[⟨1,p1,1,[exC 5 10]⟩,⟨2,p2,1,[exC 6 99]⟩,⟨3,p3,1,[exC 7 11]⟩]
def exQ:QM:=⟨3,0,1,10,19,0,0⟩
theorem Fv:BN exQ:=by decide
theorem pM{p k n:Int}(hp:1≤p∧p≤10000)(h:(exC k n).ok):EW p [exC k n]:=⟨hp,⟨tQ _,by show 1≤8;decide⟩,fun i c hc=>by
 match i,hc with
 |0,hc=>injection hc with hc;rw [←hc];exact h
 |i+1,hc=>simp at hc,fun i b c hb hc=>by simp at hc⟩
def exR:Nat→List AP
 |0=>[]
 |1=>[⟨0,5,⟨10,0,0⟩⟩]
 |2=>[⟨0,5,⟨10,0,0⟩⟩,⟨0,6,⟨99,0,0⟩⟩]
 |_=>[⟨0,5,⟨10,0,0⟩⟩,⟨0,6,⟨99,0,0⟩⟩,⟨0,7,⟨11,0,0⟩⟩]
theorem aQ(p1 p2 p3:Option Addr):Bc ((exL p1 p2 p3).take 0)=exR 0∧Bc ((exL p1 p2 p3).take 1)=exR 1∧Bc ((exL p1 p2 p3).take 2)=exR 2∧Bc ((exL p1 p2 p3).take 3)=exR 3:=⟨rfl,by kernel_rfl,by kernel_rfl,by kernel_rfl⟩
theorem YR{rs:List AP}{p k n:Int}(hp:1≤p+1∧p+1≤10000)(h:(exC k n).ok)(hf:Fb rs (exC k n))(hz:GL rs [exC k n]≤2000):MG rs p (p+1) [exC k n]:=⟨pM hp h,rfl,fun c hc=>by rw [tq.1 hc];exact hf,hz⟩
theorem YS(p1 p2 p3:Option Addr):DZ (exL p1 p2 p3):=fun i r hr=>by
 obtain ⟨h0,h1,h2,_⟩:=aQ p1 p2 p3
 match i,hr with
 |0,hr=>injection hr with hr;subst hr;rw [h0];exact ⟨YR (p:=0) (by decide) (by decide) (by unfold Fb;decide) (by decide),by show 1≤3;decide⟩
 |1,hr=>injection hr with hr;subst hr;rw [h1];exact ⟨YR (p:=1) (by decide) (by decide) (by unfold Fb;decide) (by decide),by show 1≤3;decide⟩
 |2,hr=>injection hr with hr;subst hr;rw [h2];exact ⟨YR (p:=2) (by decide) (by decide) (by unfold Fb;decide) (by decide),by show 1≤3;decide⟩
 |i+3,hr=>simp [exL]at hr
theorem kM(p1 p2 p3:Option Addr):(∃x,De (exL p1 p2 p3) 1 2 exQ=some x∧x.res.val=1∧x.since=1∧x.until_=2)∧∃y,De (exL p1 p2 p3) 1 3 exQ=some y∧y.res.val=2∧y.since=3∧y.until_=3:=by
 have hl:=YS p1 p2 p3;obtain ⟨_,_,h2,h3⟩:=aQ p1 p2 p3;have hk:1≤exQ.kd∧exQ.kd≤4:=by decide
 refine ⟨?_,?_⟩
 · cases h:De (exL p1 p2 p3) 1 2 exQ with
   |none=>exact absurd h (LG hl (by show 3≤20;decide) (by decide) (by show 2≤3;decide) Fv hk)
   |some x=>
    obtain ⟨e,hs⟩:=Fw hl (by show 3≤20;decide) (by decide) (by show 2≤3;decide) Fv h;refine ⟨x,rfl,?_,?_,by rw [e];rfl⟩
    · rw [e,h2];exact (by decide:(Cy (exR 2) exQ).val=1)
    · obtain ⟨⟨a1,a2⟩,a3,_⟩:=hs
      rcases (by omega:x.since=1∨x.since=2)with h9|h9
      · exact h9
      · obtain ⟨j,r,hj,hr,ht⟩:=a3 (by rw [h9];decide)
        obtain rfl:j=1:=by omega
        injection hr with hr
        subst hr;have:Nv exQ ⟨2,p2,1,[exC 6 99]⟩=false:=(by decide:[exC 6 99].any (El exQ)=false)
        rw [this]at ht;cases ht
 · cases h:De (exL p1 p2 p3) 1 3 exQ with
   |none=>exact absurd h (LG hl (by show 3≤20;decide) (by decide) (by show 3≤3;decide) Fv hk)
   |some x=>
    obtain ⟨e,hs⟩:=Fw hl (by show 3≤20;decide) (by decide) (by show 3≤3;decide) Fv h;refine ⟨x,rfl,?_,?_,by rw [e];rfl⟩
    · rw [e,h3];exact (by decide:(Cy (exR 3) exQ).val=2)
    · obtain ⟨⟨a1,a2⟩,_,a4⟩:=hs
      rcases (by omega:x.since=3∨x.since≤2)with h9|h9
      · exact h9
      · have ht:=a4 2 ⟨3,p3,1,[exC 7 11]⟩ (by omega) (by decide) rfl
        have:Nv exQ ⟨3,p3,1,[exC 7 11]⟩=true:=(by decide:[exC 7 11].any (El exQ)=true);rw [this]at ht;cases ht
theorem kL(p1 p2 p3:Option Addr):EO exQ 1 (Ef (Bc ((exL p1 p2 p3).take 1)) exQ) (ER (exL p1 p2 p3) 2 3)=none:=by
 have hl:=YS p1 p2 p3;obtain ⟨hs,hn⟩:=hl.rows 1 (by show 1≤3;decide);have hst:=F3 hs hn (hl.rowsOk 1 (by show 1≤3;decide)) Fv (Em hl (by show 3≤20;decide) (by show 1≤3;decide) exQ)
 rw [Ik hst (by show 1≤64;decide)];rw [show ER (exL p1 p2 p3) 2 3=[⟨3,p3,1,[exC 7 11]⟩] from rfl];unfold Gi;rw [if_neg (fun h9=>by have:=h9.2.2;revert this;show(3:Int)=1+1+((0:Nat):Int)→False;decide)];rfl
theorem Wq:CF Tryz.prog 42 #[] [] (fun r H'=>∃g1 g2 g3 g0,r=I6 g0 3 3∧H'=[[(g1,.cells #[I4 0,I4 5,.bool false,I4 0,I4 0,I4 0,.bool true,I4 10,I4 0,I4 0] 77 (0,0))],[(g2,.cells #[I4 0,I4 6,.bool false,I4 0,I4 0,I4 0,.bool true,I4 99,I4 0,I4 0] 77 (0,0))],[(g3,.cells #[I4 0,I4 7,.bool false,I4 0,I4 0,I4 0,.bool true,I4 11,I4 0,I4 0] 77 (0,0))],[(g0,.cells #[I4 1,I6 g1 1 1,I4 2,I6 g2 1 1,I4 3,I6 g3 1 1] 73 (0,0))]]):=by
 refine Se func42 ntmps42 [] ?_;intro u R;refine Zq<|Zg<|Za Y<|Z0<|Zx<|Zq<|Zg<|Zv (BK (vs:=[(0,_),(1,_),(2,_)]) (cs:=#[_,_,_]) Y (Cj zeroValue75 underlying75 sizeOf3 rfl)) ?_;refine Zv (BK (vs:=[(1,I4 5),(4,.bool true),(5,.agg #[I4 10,I4 0,I4 0])]) (cs:=#[I4 0,I4 5,.bool false,I4 0,I4 0,I4 0,.bool true,I4 10,I4 0,I4 0]) Y (Aa (pl:=#[(0,1),(1,1),(2,1),(3,3),(6,1),(7,3)]) zeroValue77 underlying77 (fun _=>by kernel_rfl) (by kernel_rfl))) ?_;refine Ze (Ae (vs:=[_]) (cs:=[_,_,_,_,_,_,_,_,_,_]) underlying71 sizeOf77 zeroValue77 Y rfl rfl rfl rfl rfl) ?_;rintro _ _ ⟨g1,rfl,rfl⟩;refine Zv (BK (vs:=[(0,_),(1,_)]) (cs:=#[_,_]) Y (Aa (pl:=#[(0,1),(1,1)]) zeroValue73 underlying73 (fun _=>by kernel_rfl) rfl)) ?_;refine Zv (BK (vs:=[(0,_),(1,_),(2,_)]) (cs:=#[_,_,_]) Y (Cj zeroValue75 underlying75 sizeOf3 rfl)) ?_;refine Zv (BK (vs:=[(1,I4 6),(4,.bool true),(5,.agg #[I4 99,I4 0,I4 0])]) (cs:=#[I4 0,I4 6,.bool false,I4 0,I4 0,I4 0,.bool true,I4 99,I4 0,I4 0]) Y (Aa (pl:=#[(0,1),(1,1),(2,1),(3,3),(6,1),(7,3)]) zeroValue77 underlying77 (fun _=>by kernel_rfl) (by kernel_rfl))) ?_;refine Ze (Ae (vs:=[_]) (cs:=[_,_,_,_,_,_,_,_,_,_]) underlying71 sizeOf77 zeroValue77 Y rfl rfl rfl rfl rfl) ?_;rintro _ _ ⟨g2,rfl,rfl⟩;refine Zv (BK (vs:=[(0,_),(1,_)]) (cs:=#[_,_]) Y (Aa (pl:=#[(0,1),(1,1)]) zeroValue73 underlying73 (fun _=>by kernel_rfl) rfl)) ?_;refine Zv (BK (vs:=[(0,_),(1,_),(2,_)]) (cs:=#[_,_,_]) Y (Cj zeroValue75 underlying75 sizeOf3 rfl)) ?_;refine Zv (BK (vs:=[(1,I4 7),(4,.bool true),(5,.agg #[I4 11,I4 0,I4 0])]) (cs:=#[I4 0,I4 7,.bool false,I4 0,I4 0,I4 0,.bool true,I4 11,I4 0,I4 0]) Y (Aa (pl:=#[(0,1),(1,1),(2,1),(3,3),(6,1),(7,3)]) zeroValue77 underlying77 (fun _=>by kernel_rfl) (by kernel_rfl))) ?_;refine Ze (Ae (vs:=[_]) (cs:=[_,_,_,_,_,_,_,_,_,_]) underlying71 sizeOf77 zeroValue77 Y rfl rfl rfl rfl rfl) ?_;rintro _ _ ⟨g3,rfl,rfl⟩;refine Zv (BK (vs:=[(0,_),(1,_)]) (cs:=#[_,_]) Y (Aa (pl:=#[(0,1),(1,1)]) zeroValue73 underlying73 (fun _=>by kernel_rfl) rfl)) ?_
 refine Ze (Ae (vs:=[_,_,_]) (cs:=[_,_,_,_,_,_]) underlying28 sizeOf73 zeroValue73 Y rfl rfl rfl rfl rfl) ?_;rintro _ _ ⟨g0,rfl,rfl⟩;refine Za Y<|Z0<|Zn [0] ?_;refine Zx<|A9 ?_;refine AC rfl results42 Y (by exact ⟨g1,g2,g3,g0,rfl,rfl⟩)
structure rz(l:List Bt):Prop where
 ok:DZ l
 len:l.length=3
 one:∃x,De l 1 2 exQ=some x∧x.res.val=1∧x.since=1∧x.until_=2
 two:∃y,De l 1 3 exQ=some y∧y.res.val=2∧y.since=3∧y.until_=3
 third:EO exQ 1 (Ef (Bc (l.take 1)) exQ) (ER l 2 l.length)=none
theorem Un{M:List AR}{g:Nat}{T:TypeId}{z:Nat×Nat}{cur:Array Value}{c:Chg}(hm:(g,Obj.cells cur T z)∈M)(hs:10≤cur.size)(he:cur.extract 0 10=#[I4 c.t,I4 c.k,.bool c.had,I4 c.o.a,I4 c.o.b,I4 c.o.c,.bool c.has,I4 c.n.a,I4 c.n.b,I4 c.n.c]):Dj M (I6 g [c].length 1) [c]:=⟨_,_,rfl,by show 1≤maxLen;decide,fun i x hx=>by
 match i,hx with
 |0,hx=>injection hx with hx;subst hx;exact ⟨g,0,cur,T,z,rfl,hm,by omega,by simpa using he⟩
 |i+1,hx=>simp at hx⟩
theorem eY:CF Tryz.prog 42 #[] [] (fun r H'=>∃(l:List Bt) (p:Option Addr) (cap:Nat) (M:List AR),rz l∧Dx M (.slice p l.length cap) l∧r= .slice p l.length cap∧H'=[M]):=by
 refine ED Wq rfl ?_;rintro r H' ⟨g1,g2,g3,g0,rfl,rfl⟩;obtain ⟨h1,h2⟩:=kM (some ⟨g1,0,none⟩) (some ⟨g2,0,none⟩) (some ⟨g3,0,none⟩);refine ⟨_,⟨exL (some ⟨g1,0,none⟩) (some ⟨g2,0,none⟩) (some ⟨g3,0,none⟩),some ⟨g0,0,none⟩,3,[(g1,.cells #[I4 0,I4 5,.bool false,I4 0,I4 0,I4 0,.bool true,I4 10,I4 0,I4 0] 77 (0,0)),(g2,.cells #[I4 0,I4 6,.bool false,I4 0,I4 0,I4 0,.bool true,I4 99,I4 0,I4 0] 77 (0,0)),(g3,.cells #[I4 0,I4 7,.bool false,I4 0,I4 0,I4 0,.bool true,I4 11,I4 0,I4 0] 77 (0,0)),(g0,.cells #[I4 1,I6 g1 1 1,I4 2,I6 g2 1 1,I4 3,I6 g3 1 1] 73 (0,0))],⟨YS _ _ _,rfl,h1,h2,kL _ _ _⟩,⟨_,_,rfl,⟨by show 3≤maxLen;decide,tQ _⟩,fun i r hr=>?_⟩,rfl,rfl⟩,by simp⟩
 match i,hr with
 |0,hr=>injection hr with hr;subst hr;exact ⟨Un (g:=g1) (c:=exC 5 10) (.head _) (by decide) rfl,g0,0,_,_,_,rfl,.tail _ (.tail _ (.tail _ (.head _))),wQ rfl,rfl⟩
 |1,hr=>injection hr with hr;subst hr;exact ⟨Un (g:=g2) (c:=exC 6 99) (.tail _ (.head _)) (by decide) rfl,g0,0,_,_,_,rfl,.tail _ (.tail _ (.tail _ (.head _))),wQ rfl,rfl⟩
 |2,hr=>injection hr with hr;subst hr;exact ⟨Un (g:=g3) (c:=exC 7 11) (.tail _ (.tail _ (.head _))) (by decide) rfl,g0,0,_,_,_,rfl,.tail _ (.tail _ (.tail _ (.head _))),wQ rfl,rfl⟩
 |i+3,hr=>simp [exL]at hr
theorem LH{l:List Bt}(hl:DZ l)(h20:l.length≤20){a b:Nat}(hab:a≤b)(hb:b≤l.length){q:QM}(hq:BN q){x:Mm}(h:De l a b q=some x):(∀y∈x.ranges,y.small)∧x.ranges.length≤1000000∧(-1000000000000≤x.base∧x.base≤1000000000000)∧(∀r∈x.recs,r.cs.length≤1000)∧Fp x.q x.ranges=some (Cy (Bc (l.take a)) q):=by
 obtain ⟨hs,hn⟩:=hl.rows a (by omega);have hscan:=Em hl h20 (by omega:a≤l.length) q
 have hst:=F3 hs hn (hl.rowsOk a (by omega)) hq hscan;have hm:=Jq (Bc (l.take a)) q
 obtain ⟨e,_⟩:=Fw hl h20 hab hb hq h;rw [e];exact ⟨WC hs hn q,by show(Ef _ _).length≤_;omega,by show _≤(a:Int)∧(a:Int)≤_;omega,Iu hl a b,hst⟩
theorem WQ{v:Value}{l:List Bt}{n:Nat}{s:List AR}(h:BV 3 67 v n (Gp (L9 l n)) s)(hn:0<n):∃g cap cur z,v=I6 g n cap∧s=[(g,.cells cur 67 z)]∧∀i,i<n→0+i*3+3≤cur.size∧cur.extract (0+i*3) (0+i*3+3)=#[I4 (EL l i).p,.string (str (EL l i).ch),.string (str (EL l i).st)]:=by
 obtain ⟨g,cap,cur,z,rfl,rfl,_,_⟩:=Df h hn;refine ⟨g,cap,cur,z,rfl,rfl,fun i hi=>?_⟩;obtain ⟨g',cap',cur',z',hv,hs,hsz,hex⟩:=Ha h i hi;injection hs with hs
 injection hs with hs1 hs2
 injection hs2 with hs2 hs3 hs4
 subst hs2;rw [uL];refine ⟨hsz,w9.1 ?_⟩;rw [hex];exact GR (fun h:Cr=>[I4 h.p,.string (str h.ch),.string (str h.st)]) 3 (fun _=>rfl) (L9 l n) i (EL l i) (by unfold L9;rw [uD,xR hi];rfl)
theorem mP{A M:List AR}{x y:K5}(hx:x.ok (A++M))(hy:y.ok (A++M)):Aw Tryz.prog 28 #[.agg #[I4 x.a.q.kd,I4 x.a.q.tb,I4 x.a.q.cl,I4 x.a.q.lo,I4 x.a.q.hi,I4 x.a.q.bq,I4 x.a.q.ot,.slice x.rp x.a.res.rows.length x.rc,I4 x.a.res.val,.bool x.a.res.fnd,I4 x.a.since,I4 x.a.until_,I4 x.a.base,.slice x.gp x.a.ranges.length x.gc,.slice x.cp x.a.recs.length x.cc],.agg #[I4 y.a.q.kd,I4 y.a.q.tb,I4 y.a.q.cl,I4 y.a.q.lo,I4 y.a.q.hi,I4 y.a.q.bq,I4 y.a.q.ot,.slice y.rp y.a.res.rows.length y.rc,I4 y.a.res.val,.bool y.a.res.fnd,I4 y.a.since,I4 y.a.until_,I4 y.a.base,.slice y.gp y.a.ranges.length y.gc,.slice y.cp y.a.recs.length y.cc]] [A,M] (.bool (decide (x.a.eqv y.a))):=by
 refine ED (MQ hx hy) (by simp) ?_;rintro r H' ⟨rfl,rfl⟩;exact ⟨_,⟨rfl,rfl⟩,by simp⟩
theorem mO{A B M:List AR}{x y:K5}(hx:x.ok (A++M))(hy:y.ok (B++M)):Aw Tryz.prog 28 #[.agg #[I4 x.a.q.kd,I4 x.a.q.tb,I4 x.a.q.cl,I4 x.a.q.lo,I4 x.a.q.hi,I4 x.a.q.bq,I4 x.a.q.ot,.slice x.rp x.a.res.rows.length x.rc,I4 x.a.res.val,.bool x.a.res.fnd,I4 x.a.since,I4 x.a.until_,I4 x.a.base,.slice x.gp x.a.ranges.length x.gc,.slice x.cp x.a.recs.length x.cc],.agg #[I4 y.a.q.kd,I4 y.a.q.tb,I4 y.a.q.cl,I4 y.a.q.lo,I4 y.a.q.hi,I4 y.a.q.bq,I4 y.a.q.ot,.slice y.rp y.a.res.rows.length y.rc,I4 y.a.res.val,.bool y.a.res.fnd,I4 y.a.since,I4 y.a.until_,I4 y.a.base,.slice y.gp y.a.ranges.length y.gc,.slice y.cp y.a.recs.length y.cc]] [A,B,M] (.bool (decide (x.a.eqv y.a))):=by
 refine ED (MQ (hx.mono (M':=A++(B++M)) (fun c hc=>by rcases u7.1 hc with h9|h9;exact u6 _ h9;exact tZ _ (tZ _ h9))) (hy.mono (fun c hc=>tZ A hc))) (by simp) ?_;rintro r H' ⟨rfl,rfl⟩;exact ⟨_,⟨rfl,rfl⟩,by simp⟩
theorem fI:¬BN ⟨0,0,0,0,0,0,0⟩:=by decide
end Go.Proofs.YtkdgffcfmgmemaaGreatDoor
