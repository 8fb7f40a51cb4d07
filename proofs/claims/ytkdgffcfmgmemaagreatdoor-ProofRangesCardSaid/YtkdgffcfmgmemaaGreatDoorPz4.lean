/- log, positions, built. -/
/- What is built on a log, in plain words; the example of chapter 11. -/
/- The example of chapter 11; sane. -/
/- Sane. -/
import Derived.Test.YtkdgffcfmgmemaaGreatDoorEz
import Derived.Test.YtkdgffcfmgmemaaGreatDoorPy9
import Derived.Test.YtkdgffcfmgmemaaGreatDoorPf2
set_option linter.unusedVariables false
set_option linter.unusedSimpArgs false
namespace Go.Proofs.YtkdgffcfmgmemaaGreatDoor
open Go.Proofs.Tryz
open Go Go.RowKit Gw
set_option maxRecDepth 100000
attribute [local irreducible] Gw.At Gw.Nx Gw.Ops
theorem qm{M:List AV}{v:Value}{xs:List (List Int)}(hX:Nc M v xs):CK Tryz.prog 44 #[v] [M] (fun r H'=>∃(l:List Bt) (s:List AV),DY l∧l.length≤20∧Dv s r l∧H'=[s,M]):=by
 have hml:=mL;obtain ⟨py,capy,rfl,hyl,hgy⟩:=id hX;have hX2:=gV hX (min xs.length 20) (Nat.min_le_left _ _)
 have hyk:(xs.take (min xs.length 20)).length≤20:=by rw [tK];omega
 refine Se func44 ntmps44 [0] ?_;intro u R;refine Zq<|Zg<|Za Y<|Z0<|Zx<|Zq<|Zg<|Zm Y<|Zm Y<|Zv (AR underlying22 Y)<|Zv (OB (n:=20) Y Y) ?_;refine BM (Bh underlying22 sizeOf217 Y Y (by first|omega|(simp;omega))) ?_;refine Zc [_] Y call105 Y rfl (pE hX2 (by omega)) ?_;rintro _ _ ⟨_,⟨l,sl,hlog,hll,hRI,rfl⟩,rfl⟩;refine Za Y<|Z0<|Zx<|A9 ?_;refine AC rfl results44 Y (by exact ⟨l,sl,hlog,by omega,hRI,rfl⟩)
set_option maxHeartbeats 1000000 in
theorem Vl{M:List AV}{v:Value}{xs:List (List Int)}(hX:Nc M v xs)(q0 q1 q2 q3 q4 cb cu:Int)(hq01:-9223372036854775808≤q0)(hq02:q0≤9223372036854775807)(hq11:-9223372036854775808≤q1)(hq12:q1≤9223372036854775807)(hq21:-9223372036854775808≤q2)(hq22:q2≤9223372036854775807)(hq31:-9223372036854775808≤q3)(hq32:q3≤9223372036854775807)(hq41:-9223372036854775808≤q4)(hq42:q4≤9223372036854775807)(hcb1:-9223372036854775808≤cb)(hcb2:cb≤9223372036854775807)(hcu1:-9223372036854775808≤cu)(hcu2:cu≤9223372036854775807)(tw:Value):CK Tryz.prog 12 #[.agg #[v,I4 q0,I4 q1,I4 q2,I4 q3,I4 q4,I4 cb,I4 cu,tw]] [M] (fun r H'=>∃(l:List Bt) (p:Option Addr) (cap:Nat) (s:List AV) (q:QM) (a b:Nat),DY l∧l.length≤20∧Dv s (.slice p l.length cap) l∧BP q∧a≤b∧b≤l.length∧r= .tuple #[.slice p l.length cap,.agg #[I4 q.kd,I4 q.tb,I4 q.cl,I4 q.lo,I4 q.hi,I4 q.bq,I4 q.ot],I4 (a:Int),I4 (b:Int)]∧H'=[s,M]):=by
 have hml:=mL;obtain ⟨py,capy,rfl,hyl,hgy⟩:=id hX;refine Se func12 ntmps12 [0] ?_;intro u R;refine Zq<|Zg<|Ze (Bx #[.slice py xs.length capy,I4 q0,I4 q1,I4 q2,I4 q3,I4 q4,I4 cb,I4 cu,tw]) ?_;rintro _ _ ⟨bc,rfl,rfl⟩;refine Za Y<|Ze (Al zeroValue30 #[_,_,_,_,_,_,_]) ?_;rintro _ _ ⟨bq,rfl,rfl⟩;refine Za Y<|Za Y<|Z0<|Zx<|Zq<|Zg<|Zh 0 underlying26 rfl rfl sizeOf22 Y<|Zl isAgg22 Y ?_;refine Zc [_] Y call44 Y rfl (qm hX) ?_;rintro _ _ ⟨_,⟨l,sl,hlog,hll,hRI,rfl⟩,rfl⟩;obtain ⟨pl,cl,rfl,hl1,hl2⟩:=id hRI;refine Za Y<|Z0<|Zx<|Zq<|Zg<|Zh 6 underlying26 rfl rfl sizeOf3 Y<|Zl isAgg3 Y ?_;refine Zm Y<|Zv (AR underlying28 Y)<|Ya (n:=1) Y Y<|Xr [_,_] Y call32 Y rfl (UL cb (l.length+1) (by omega) (by omega) hcb1 hcb2) ?_;obtain ⟨a,ha⟩:∃a,a=C9 cb (l.length+1):=⟨_,rfl⟩;rw [←ha];have hal:=En cb (l.length+1) (by omega)
 rw [←ha]at hal;refine Za Y<|Z0<|Zn [1,3,6,7] ?_;refine Zx<|Zq<|BJ (n:=19) (0::0::2::6::0::0::0::64::0::256::0::1792::3840::8142::16366::16335::49103::114655::262143::[]) 73736 (by kernel_rfl) (by kernel_rfl) rfl ?_;refine Zi 1 0 rfl (AJ Y)<|Zi 3 1 rfl (AU (off:=1) underlying26 rfl rfl sizeOf23 Y)<|DX (D':=7) 2 rfl rfl rfl Wh (Pa #[_,_,_,_,_] isAgg23 sizeOf23 Y) ?_;refine Zi 23 4 rfl (AJ Y)<|Zi 55 5 rfl (AJ Y)<|Zi 119 6 rfl (AU (off:=7) underlying26 rfl rfl sizeOf3 Y)<|Zj 247 7 rfl isAgg3 Y ?_;refine Zi 503 8 rfl (AJ Y)<|Zi 1015 9 rfl (AR underlying28 Y)<|Zi 2039 10 rfl (AJ Y) ?_
 (refine EE (D':=4087) 11 (Bg Y Y ?_ ?_) ?_;(focus (omega));(focus (omega)))
 refine Zi 8183 12 rfl (Cs (n:=1) Y Y (by omega)) ?_;refine Zz (l:=[3]) ?_;refine Zy 6 8191 [7,2] [true,false] [(7,(_,_))] rfl Y rfl rfl rfl rfl (Zw [_] Y call45 Y rfl (pF q0 q1 q2 q3 q4 hq01 hq02 hq11 hq12 hq21 hq22 hq31 hq32 hq41 hq42)) ?hk_1 D9 ?hl_1
 case hk_1=>
  rintro _ _ ⟨_,⟨q,hq,rfl,rfl⟩,rfl⟩;refine ⟨Zk (Ad),?_⟩;refine Yw 13 16383 rfl (Zu [_,_] Y call32 Y rfl (UL cu (l.length -a+1) (by omega) (by omega) hcu1 hcu2)) ?_;rintro _ _ ⟨rfl,rfl⟩;obtain ⟨d,hd⟩:∃d,d=C9 cu (l.length -a+1):=⟨_,rfl⟩;rw [←hd];have hdl:=En cu (l.length -a+1) (by omega)
  rw [←hd]at hdl;refine Zi 32767 14 rfl (Cs Y Y (by omega)) ?_;refine Zi 65535 15 rfl (Aw Y)<|Zz (l:=[16]) ?_;refine Zy 49103 131071 [] [] [] rfl Y rfl rfl rfl rfl (BO sizeOf30 Y Y (by(simp [Value.oneCell'];done)) Wu (by exact DW rfl) (by first|rfl|(simp;done)) Wb (by exact BQ _)) ?hk_3 (fun _ _ h=>h.elim) ?hl_3
  case hk_3=>
   rintro _ _ ⟨rfl,rfl⟩;refine ⟨Ad,?_⟩;refine Zi 262143 17 rfl (Aw Y)<|Zi 524287 18 rfl (Aw Y)<|Am ?_;refine Zn [2,3,4,5] ?_;refine Zx<|A9 ?_;refine Y2 rfl results12 Y Y Wh (Ah isAgg30 sizeOf30 Wn (BA rfl)) Y Y (by exact ⟨l,pl,cl,sl,q,a,a+d,hlog,hll,hRI,hq,by omega,by omega,rfl,rfl⟩)
  exact Av
 exact Av
set_option maxHeartbeats 2000000 in
theorem fE{M:List AV}{p:Option Addr}{cap:Nat}{l:List Bt}(hRI:Dv M (.slice p l.length cap) l)(hlog:DY l)(hll:l.length≤20)(a b:Nat)(hab:a≤b)(hb:b≤l.length)(q:QM)(hq:BP q)(Tg:TypeId)(zg:Nat×Nat):CK Tryz.prog 29 #[.slice p l.length cap,I4 (a:Int),I4 (b:Int),.agg #[I4 q.kd,I4 q.tb,I4 q.cl,I4 q.lo,I4 q.hi,I4 q.bq,I4 q.ot]] [[(1,.cells (Ct.map Bn).toArray Tg zg)],M] (fun w H'=>∃(z:KU) (s mem:List AV) (t:Bool) (pg:Option Addr) (cg:Nat),((t=true∧EL l a b q=some z.a∧z.ok (s++mem++M))∨(t=false∧EL l a b q=none))∧Gr mem (.slice pg (EJ (Bb (l.take a)) q).length cg) (EJ (Bb (l.take a)) q)∧w= .tuple #[.agg #[I4 q.kd,I4 q.tb,I4 q.cl,I4 q.lo,I4 q.hi,I4 q.bq,I4 q.ot,I4 0,I4 (a:Int),.slice pg (EJ (Bb (l.take a)) q).length cg],.agg #[I4 z.a.q.kd,I4 z.a.q.tb,I4 z.a.q.cl,I4 z.a.q.lo,I4 z.a.q.hi,I4 z.a.q.bq,I4 z.a.q.ot,.slice z.rp z.a.res.rows.length z.rc,I4 z.a.res.val,.bool z.a.res.fnd,I4 z.a.since,I4 z.a.until_,I4 z.a.base,.slice z.gp z.a.ranges.length z.gc,.slice z.cp z.a.recs.length z.cc],.bool t]∧H'=[s,mem,[(1,.cells (Ct.map Bn).toArray Tg zg)],M]):=by
 have hml:=mL;obtain ⟨p9,cap9,e9,⟨hl1,hl2⟩,_⟩:=id hRI;injection e9 with e91 e92 e93
 subst e91 e93;obtain ⟨hs,hn⟩:=hlog.rows a (by omega);have hok:=hlog.rowsOk a (by omega)
 have hscan:=Ff hlog hll (by omega:a≤l.length) q;have hst:=Fq hs hn hok hq hscan
 have hmk:=Lb (Bb (l.take a)) q;obtain ⟨L,hL⟩:∃L,L=EJ (Bb (l.take a)) q:=⟨_,rfl⟩;have hbt:EL l a b q=Ex q (a:Int) L (F4 l a b):=by unfold EL;rw [←hL]
 rw [←hL]at hst hmk⊢;refine Se func29 ntmps29 [0,1,2,3] ?_;intro u R;refine Zq<|Zg<|Ze (Bx #[I4 q.kd,I4 q.tb,I4 q.cl,I4 q.lo,I4 q.hi,I4 q.bq,I4 q.ot]) ?_;rintro _ _ ⟨bq,rfl,rfl⟩;refine Ze (Al zeroValue57 #[_,_,_,_,_,_,_,_,_,_]) ?_;rintro _ _ ⟨be,rfl,rfl⟩;refine Ze (Al zeroValue53 #[_,_,_,_,_,_,_,_,_,_,_,_,_,_,_]) ?_;rintro _ _ ⟨ba,rfl,rfl⟩;refine Za Y<|Z0<|Zx<|Zq<|Zg<|Zm Y<|Zm Y<|Zc [_,_] Y call13 Y rfl (oN hRI hlog (by omega) a (by omega)) ?_;rintro _ _ ⟨_,⟨vs,ss,rfl,hS,rfl⟩,rfl⟩;refine Zm Y<|Zd Y rfl<|Zd Y rfl<|Za Y<|Za Y<|Z0<|Zx<|Zq<|Zq<|Zg<|Zm Y<|Zv (DJ (n:=0) Y Y)<|Z0<|Zn [0,1,2,7,8,9,11,25] ?_;refine Zx ?_;refine Ao Y (fun hb0=>?_) (fun hb0=>?_)
 ·
  exact absurd rfl hb0
 refine AB<|Zx<|Zq<|Zg<|Zm Y<|Zo Wh (Ab (cs:=#[_,_,_,_,_,_,_]) isAgg30 sizeOf30 Y Wb (by exact BA rfl)) ?_;refine Zc [_,_] Y call15 Y rfl (jM _ _ _ _ hS hs hn hok q hq hscan Tg zg) ?_;rintro _ _ ⟨_,⟨vo,mem,rfl,hRP,rfl⟩,rfl⟩;rw [←hL]at hRP;obtain ⟨pg,cg,rfl,hg1,hg2⟩:=hRP.form;refine Zm Y<|Zd Y rfl<|Zd Y rfl<|Za Y<|Za Y<|Z0<|Zx<|Zq<|Zg<|Zo Wh (Ab (cs:=#[_,_,_,_,_,_,_]) isAgg30 sizeOf30 Y Wb (by exact BA rfl)) ?_;refine Zm Y<|Zm Y<|Zv (BH (vs:=[(0,.agg #[I4 q.kd,I4 q.tb,I4 q.cl,I4 q.lo,I4 q.hi,I4 q.bq,I4 q.ot]),(2,I4 (a:Int)),(3,.slice pg L.length cg)]) (cs:=#[I4 q.kd,I4 q.tb,I4 q.cl,I4 q.lo,I4 q.hi,I4 q.bq,I4 q.ot,I4 0,I4 (a:Int),.slice pg L.length cg]) Y (AX (pl:=#[(0,7),(7,1),(8,1),(9,1)]) zeroValue57 underlying57 (fun _=>by kernel_rfl) (by kernel_rfl))) ?_;refine Ze (Al zeroValue57 #[_,_,_,_,_,_,_,_,_,_]) ?_;rintro _ _ ⟨bx,rfl,rfl⟩;refine Xe (Xw sizeOf57 #[I4 q.kd,I4 q.tb,I4 q.cl,I4 q.lo,I4 q.hi,I4 q.bq,I4 q.ot,I4 0,I4 (a:Int),.slice pg L.length cg]) ?_;refine Z0<|Zn [0,1,2,8,9,14,15] ?_;refine Zx<|Zb [0,1,2,8,9,14,15] ?_;refine CY (e0:=[(0,_),(1,_),(2,_)]) (H0:=[mem,M]) (fun e H=>∃(z:KU) (s:List AV) (t:Bool) (bz:Nat),((t=true∧Ex q (a:Int) L (F4 l a b)=some z.a∧z.ok (s++mem++M))∨(t=false∧Ex q (a:Int) L (F4 l a b)=none))∧e=[(16,I5 bz),(17,.bool t)]∧H=[[(bz,.cells #[I4 z.a.q.kd,I4 z.a.q.tb,I4 z.a.q.cl,I4 z.a.q.lo,I4 z.a.q.hi,I4 z.a.q.bq,I4 z.a.q.ot,.slice z.rp z.a.res.rows.length z.rc,I4 z.a.res.val,.bool z.a.res.fnd,I4 z.a.since,I4 z.a.until_,I4 z.a.base,.slice z.gp z.a.ranges.length z.gc,.slice z.cp z.a.recs.length z.cc] 53 (0,0))],s,mem,M]) Wp ?hx_1 ?hy_1
 case hx_1=>
  refine BJ (n:=12) (0::0::0::0::14::31::63::127::127::0::767::2047::[]) 1568 (by kernel_rfl) (by kernel_rfl) rfl ?_;refine DX (D':=1) 0 rfl rfl rfl Wh (Ab (cs:=#[I4 q.kd,I4 q.tb,I4 q.cl,I4 q.lo,I4 q.hi,I4 q.bq,I4 q.ot,I4 0,I4 (a:Int),.slice pg L.length cg]) isAgg57 sizeOf57 Y (by exact tO _) (by exact BA rfl)) ?_;refine Zi 3 1 rfl (AJ Y)<|Zi 7 2 rfl (AJ Y)<|Zi 15 3 rfl (AJ Y) ?_
  (refine EE (D':=31) 4 (Lr underlying28 sizeOf73 Y Y Y ?_ ?_) ?_;(focus (omega));(focus (omega)))
  refine Zz (l:=[5,9]) ?_;refine Zy 31 63 [0] [false] [] rfl Y rfl rfl rfl rfl (Zw [_,_] Y call18 Y rfl (NW q 0 (a:Int) (by omega) (hRP.mono (fun c hc=>uM M hc)) (by omega) hst (G9 (Mx hRI hab hb) (fun c hc=>tq mem hc)) (Kl hlog a b))) ?hk_2 D9 ?hl_2
  case hk_2=>
   rintro _ _ ⟨_,⟨z,s,t,hz,rfl,rfl⟩,rfl⟩;refine ⟨Ad,?_⟩;refine Zi 127 6 rfl (AJ Y)<|Zi 255 7 rfl (CL Y rfl)<|Zi 511 8 rfl (CL Y rfl)<|Zz (l:=[9]) ?_;refine Zy 0 1023 [] [] [] rfl Y rfl rfl rfl rfl (Al zeroValue53 #[_,_,_,_,_,_,_,_,_,_,_,_,_,_,_]) ?hk_3 (fun _ _ h=>h.elim) ?hl_3
   case hk_3=>
    rintro _ _ ⟨bz,rfl,rfl⟩;refine ⟨Ad,?_⟩;refine Yw 10 2047 rfl (Xw sizeOf53 #[I4 z.a.q.kd,I4 z.a.q.tb,I4 z.a.q.cl,I4 z.a.q.lo,I4 z.a.q.hi,I4 z.a.q.bq,I4 z.a.q.ot,.slice z.rp z.a.res.rows.length z.rc,I4 z.a.res.val,.bool z.a.res.fnd,I4 z.a.since,I4 z.a.until_,I4 z.a.base,.slice z.gp z.a.ranges.length z.gc,.slice z.cp z.a.recs.length z.cc]) ?_;rintro _ _ ⟨rfl,rfl⟩;refine Zi 4095 11 rfl (Aw Y)<|Am ?_;refine Zn [16,17,8,9,14,15] ?_;refine BB (e':=[(16,_),(17,_)]) (by exact ⟨z,s,t,bz,hz,rfl,rfl⟩)
   exact Av
  refine Zy 0 543 [0] [true] [(0,(_,_))] rfl Y rfl rfl rfl rfl (Al zeroValue53 #[_,_,_,_,_,_,_,_,_,_,_,_,_,_,_]) ?hk_6 (fun _ _ h=>h.elim) ?hl_6
  case hk_6=>
   rintro _ _ ⟨bz,rfl,rfl⟩;refine ⟨Zk (Ad),?_⟩;refine Zz (l:=[5]) ?_;refine Zy 31 575 [0] [false] [] rfl Y rfl rfl rfl rfl (Zw [_,_] Y call18 Y rfl (NW q 0 (a:Int) (by omega) (hRP.mono (fun c hc=>uM M hc)) (by omega) hst (G9 (Mx hRI hab hb) (fun c hc=>tq mem hc)) (Kl hlog a b))) ?hk_7 D9 ?hl_7
   case hk_7=>
    rintro _ _ ⟨_,⟨z,s,t,hz,rfl,rfl⟩,rfl⟩;refine ⟨Ad,?_⟩;refine Zi 639 6 rfl (AJ Y)<|Zi 767 7 rfl (CL Y rfl)<|Zi 1023 8 rfl (CL Y rfl)<|Zz (l:=[10]) ?_;refine Zy 767 2047 [] [] [] rfl Y rfl rfl rfl rfl (Xw sizeOf53 #[I4 z.a.q.kd,I4 z.a.q.tb,I4 z.a.q.cl,I4 z.a.q.lo,I4 z.a.q.hi,I4 z.a.q.bq,I4 z.a.q.ot,.slice z.rp z.a.res.rows.length z.rc,I4 z.a.res.val,.bool z.a.res.fnd,I4 z.a.since,I4 z.a.until_,I4 z.a.base,.slice z.gp z.a.ranges.length z.gc,.slice z.cp z.a.recs.length z.cc]) ?hk_8 (fun _ _ h=>h.elim) ?hl_8
    case hk_8=>
     rintro _ _ ⟨rfl,rfl⟩;refine ⟨Ad,?_⟩;refine Zi 4095 11 rfl (Aw Y)<|Am ?_;refine Zn [16,17,8,9,14,15] ?_;refine BB (e':=[(16,_),(17,_)]) (by exact ⟨z,s,t,bz,hz,rfl,rfl⟩)
    exact Av
   exact Av
  exact Av
 rintro _ _ ⟨z,s,t,bz,hz,rfl,rfl⟩;refine Zq<|BJ (n:=10) (0::0::0::4::12::28::60::29::159::511::[]) 384 (by kernel_rfl) (by kernel_rfl) rfl ?_;refine DX (D':=1) 0 rfl rfl rfl Wh (Ab (cs:=#[_,_,_,_,_,_,_,_,_,_]) isAgg57 sizeOf57 Y Wb (by exact BA rfl)) ?_;refine DX (D':=3) 1 rfl rfl rfl Wh (Ab (cs:=#[_,_,_,_,_,_,_,_,_,_,_,_,_,_,_]) isAgg53 sizeOf53 Y Wb (by exact BA rfl)) ?_;refine Zi 7 2 rfl (AJ Y)<|Zi 15 3 rfl (Bi (n:=0) Y Y)<|Zi 31 4 rfl (AJ Y) ?_;refine CR (t:=51) Y (fun hb2=>?_) (fun hb2=>?_)
 ·
  first|rw [decide_eq_true hb2]|rw [hb2]|skip
  refine Ai (D':=63) 5 Y rfl rfl rfl (AJ Y) ?_;refine Zi 127 6 rfl (AL Y Y)<|Zz (l:=[7]) ?_;refine Zy 29 255 [1,0] [true,false] [(1,(_,_))] rfl Y rfl rfl rfl rfl (BO sizeOf57 Y Y (by(simp [Value.oneCell'];done)) Wu (by exact DW rfl) (by first|rfl|(simp;done)) Wb (by exact BQ _)) ?hk_10 (fun _ _ h=>h.elim) ?hl_10
  case hk_10=>
   rintro _ _ ⟨rfl,rfl⟩;refine ⟨Zk (Ad),?_⟩;refine Yw 8 511 rfl (BO sizeOf53 Y Y (by(simp [Value.oneCell'];done)) Wu (by exact DW rfl) (by first|rfl|(simp;done)) Wb (by exact BQ _)) ?_;rintro _ _ ⟨rfl,rfl⟩;refine Zi 1023 9 rfl (Aw Y)<|Am ?_;refine Zx<|A9 ?_;refine dF rfl results29 Y Y Y Wh Wh (Ah isAgg57 sizeOf57 Wn (BA rfl)) (Ah isAgg53 sizeOf53 Wn (BA rfl)) (by exact ⟨z,s,mem,t,pg,cg,by rw [hbt];exact hz,hRP,rfl,rfl⟩)
  exact Av
 first|rw [decide_eq_false hb2]|rw [hb2]|skip
 exact absurd rfl hb2
theorem aO{M:List AV}{p:Option Addr}{cap:Nat}{l:List Bt}(hRI:Dv M (.slice p l.length cap) l)(hlog:DY l)(hll:l.length≤20)(a b:Nat)(hab:a≤b)(hb:b≤l.length)(q:QM)(hq:BP q)(Tg:TypeId)(zg:Nat×Nat):CK Tryz.prog 29 #[.slice p l.length cap,I4 (a:Int),I4 (b:Int),.agg #[I4 q.kd,I4 q.tb,I4 q.cl,I4 q.lo,I4 q.hi,I4 q.bq,I4 q.ot]] [[(1,.cells (Ct.map Bn).toArray Tg zg)],M] (fun w H'=>∃(z:KU) (E:List AV) (t:Bool) (pg:Option Addr) (cg:Nat),((t=true∧EL l a b q=some z.a∧z.ok (E++M))∨(t=false∧EL l a b q=none))∧Gr (E++M) (.slice pg (EJ (Bb (l.take a)) q).length cg) (EJ (Bb (l.take a)) q)∧w= .tuple #[.agg #[I4 q.kd,I4 q.tb,I4 q.cl,I4 q.lo,I4 q.hi,I4 q.bq,I4 q.ot,I4 0,I4 (a:Int),.slice pg (EJ (Bb (l.take a)) q).length cg],.agg #[I4 z.a.q.kd,I4 z.a.q.tb,I4 z.a.q.cl,I4 z.a.q.lo,I4 z.a.q.hi,I4 z.a.q.bq,I4 z.a.q.ot,.slice z.rp z.a.res.rows.length z.rc,I4 z.a.res.val,.bool z.a.res.fnd,I4 z.a.since,I4 z.a.until_,I4 z.a.base,.slice z.gp z.a.ranges.length z.gc,.slice z.cp z.a.recs.length z.cc],.bool t]∧H'=[E,[(1,.cells (Ct.map Bn).toArray Tg zg)],M]):=by
 refine ES (fE hRI hlog hll a b hab hb q hq Tg zg) rfl ?_;rintro w H' ⟨z,s,mem,t,pg,cg,h1,h2,rfl,rfl⟩;exact ⟨_,⟨z,s++mem,t,pg,cg,h1,h2.mono (fun c hc=>uM _ (tq _ hc)),rfl,rfl⟩,by simp⟩
theorem bC{q:QM}{l:List Bt}{a b:Nat}{st st2:CO×Int}(h:Gg q (a:Int) 0 st (F4 l a b)=some st2):Gg q (a:Int) 0 st ((l.drop a).take (b -a))=some st2:=h
theorem Gq{l:List Bt}(hl:DY l)(h20:l.length≤20){a b:Nat}(hab:a≤b)(hb:b≤l.length){q:QM}(hq:BP q){x:Mc}(h:EL l a b q=some x):x=⟨q,Dh (Bb (l.take b)) q,x.since,(b:Int),(a:Int),EJ (Bb (l.take a)) q,F4 l a b⟩∧lF q l a (b -a) x.since:=by
 obtain ⟨hs,hn⟩:=hl.rows a (by omega);have hst:=Fq hs hn (hl.rowsOk a (by omega)) hq (Ff hl h20 (by omega) q)
 have hpl:=TA (l:=l) (a:=a) hb;unfold EL at h;rw [Jt hst (by omega)]at h;cases hr:Gg q (a:Int) 0 (Dh (Bb (l.take a)) q,(a:Int)) (F4 l a b)with
 |none=>rw [hr]at h;cases h
 |some st=>
  rw [hr]at h;injection h with h
  obtain ⟨e1,e2⟩:=SV hq hl (by omega:a≤l.length) (b -a) (by omega) st (bC hr);rw [show a+(b -a)=b by omega]at e1;subst h;refine ⟨?_,e2⟩;simp only [hpl,e1];congr 1;omega
theorem mi{l:List Bt}(hl:DY l){a b:Nat}(hb:b≤l.length)(hll:l.length≤20):∀(k:Nat) (x:Bt),(F4 l a b)[k]?=some x→(a:Int)≤9223372036854775806 -((0+k:Nat):Int)∧x.p=(a:Int)+1+((0+k:Nat):Int):=fun k x hk=>by
 obtain ⟨h1,h2⟩:=Vq hk;have h3:x.p=((a+k:Nat):Int)+1:=(hl _ x h1).1.pos
 have h4:=(tF.1 h1).1;exact ⟨by omega,by rw [h3];push_cast;omega⟩
theorem P8{l:List Bt}(hl:DY l)(h20:l.length≤20){a b:Nat}(hab:a≤b)(hb:b≤l.length){q:QM}(hq:BP q)(hk:1≤q.kd∧q.kd≤4):EL l a b q≠none:=by
 obtain ⟨hs,hn⟩:=hl.rows a (by omega);have hst:=Fq hs hn (hl.rowsOk a (by omega)) hq (Ff hl h20 (by omega) q)
 have hpl:=TA (l:=l) (a:=a) hb;obtain ⟨st,hst2⟩:=Q5 hk (F4 l a b) 0 (Dh (Bb (l.take a)) q,(a:Int)) (mi hl hb h20);unfold EL;rw [Jt hst (by omega),hst2];exact fun h=>by cases h
theorem Ou{rs:List AQ}(hs:BK rs)(hn:rs.length≤2000)(q:QM):∀x∈EJ rs q,x.small:=fun x hx=>by
 unfold EJ at hx;rcases uH.1 hx with rfl|hx
 · exact ⟨Oj hs hn _ _ _ _,Ol hs hn _ _ _ _⟩
 · split at hx
   · obtain ⟨r,_,rfl⟩:=ug.1 hx
     exact ⟨Oj hs hn _ _ _ _,Ol hs hn _ _ _ _⟩
   · cases hx
theorem TP{rs:List AQ}(hs:BK rs)(hn:rs.length≤2000)(hok:∀r∈rs,r.ok){q:QM}(hq:BP q):∀x∈EJ rs q,Nb (Cz rs) x:=fun x hx=>by
 have h1:=hq.1;have h2:=hq.2.1
 have h3:=hq.2.2.1.2.1;have h4:0≤q.ot∧q.ot≤3:=by have:=hq.2.2.2;omega
 unfold EJ at hx;rcases uH.1 hx with rfl|hx
 · exact SF hs hn hok _ _ (by omega) (by omega) _ _ h3
 · split at hx
   · obtain ⟨r,_,rfl⟩:=ug.1 hx
     exact SF hs hn hok _ _ (by omega) (by omega) _ _ (zW _)
   · cases hx
theorem Pf{l:List Bt}(hl:DY l)(h9:l.length≤9000){st:Bs}(hst:st.length=32){a:Nat}:∀k,a+k≤l.length→∃h,IJ st (EP l a) ((l.drop a).take k)=some h∧h.p=((a+k:Nat):Int)∧h.ch=(EP l (a+k)).ch∧h.ok∧(k=0→h=EP l a)∧(0<k→h.st=st)
 |0,hk=>by
  obtain ⟨h1,h2,_⟩:=J2 hl h9 a (by omega);exact ⟨EP l a,by rw [um];rfl,h2,rfl,h1,fun _=>rfl,fun h=>by omega⟩
 |k+1,hk=>by
  obtain ⟨h,e1,e2,e3,e4,_,_⟩:=Pf hl h9 hst (a:=a) k (by omega);obtain ⟨r,hr⟩:∃r,l[a+k]?=some r:=⟨_,tC (by omega)⟩;have hr2:(l.drop a)[k]?=some r:=by rw [uq];exact hr
  obtain ⟨ha,_⟩:=hl _ r hr;have hp:r.p=((a+k:Nat):Int)+1:=ha.pos
  have hnx:FR h r st:=⟨ha.ok,e4,hst,by rw [e2];exact hp⟩;refine ⟨GG h r st,by rw [M6 e1 hr2,if_pos hnx],by show r.p=_;rw [hp];rfl,?_,⟨⟨by show 0≤r.p;omega,by show r.p≤10000;omega⟩,Ow _ _,hst⟩,fun h=>by omega,fun _=>rfl⟩;show MX h.ch _=_
  rw [e3,show a+(k+1)=a+k+1 by omega,KE hr];rfl
theorem WW{l:List Bt}(hl:DY l)(h9:l.length≤9000){a b:Nat}(hab:a≤b)(hb:b≤l.length):J6 (EP l a) (F4 l a b) (EP l b):=by
 obtain ⟨h1,_,_⟩:=J2 hl h9 a (by omega);obtain ⟨h2,h3,h4⟩:=J2 hl h9 b hb;obtain ⟨h,e1,e2,e3,e4,e5,e6⟩:=Pf hl h9 h2.2.2 (a:=a) (b -a) (by omega);refine ⟨h1,h2,?_⟩;unfold F4;rw [e1];rcases vH (b -a)with h0|h0
 · rw [e5 h0,show a=b by omega]
 · rw [show a+(b -a)=b by omega]at e2 e3
   exact congrArg some (aF.2 ⟨by rw [e2,h3],e3,e6 h0⟩)
theorem WX{l:List Bt}(hl:DY l)(h9:l.length≤9000){a b:Nat}(hab:a≤b)(hb:b≤l.length){u:Cg}(h:J6 (EP l a) (F4 l a b) u):u.p=(b:Int):=by
 obtain ⟨w,e1,e2,_⟩:=Pf hl h9 h.2.1.2.2 (a:=a) (b -a) (by omega);have h3:=h.2.2
 unfold F4 at h3;rw [e1]at h3;injection h3 with h3
 rw [←h3,e2];congr 1;omega
theorem Mc.eqv_refl(a:Mc):a.eqv a:=⟨rfl,rfl,rfl,rfl,rfl,rfl,rfl⟩
theorem PD{l:List Bt}(hl:DY l)(h20:l.length≤20){a b:Nat}(hab:a≤b)(hb:b≤l.length){q:QM}(hq:BP q){x:Mc}(h:EL l a b q=some x):II (EP l a) (EP l b) x:=by
 obtain ⟨hs,hn⟩:=hl.rows a (by omega);obtain ⟨e,_⟩:=Gq hl h20 hab hb hq h;have h2:=(J2 hl (by omega) b hb).2.1
 obtain ⟨_,h1,hst⟩:=J2 hl (by omega) a (by omega);unfold EL at h;have hx:x.q=q∧x.base=(a:Int)∧x.ranges=EJ (Bb (l.take a)) q∧x.recs=F4 l a b∧x.until_=(b:Int):=by rw [e];exact ⟨rfl,rfl,rfl,rfl,rfl⟩
 refine ⟨by rw [h1,hx.2.1],by rw [h2,hx.2.2.2.2],by rw [hx.2.2.2.1];exact WW hl (by omega) hab hb,fun y hy=>?_,x,by rw [hx.1,hx.2.1,hx.2.2.1,hx.2.2.2.1];exact h,x.eqv_refl⟩;rw [hst];exact TP hs hn (hl.rowsOk a (by omega)) hq y (by rw [←hx.2.2.1];exact hy)
theorem YW{l:List Bt}(hl:DY l)(h20:l.length≤20){a b:Nat}(hab:a≤b)(hb:b≤l.length){q:QM}(hq:BP q){x y:Mc}(h:EL l a b q=some x)(hy:y.q=x.q∧y.base=x.base∧y.ranges=x.ranges∧y.recs=x.recs){u:Cg}:II (EP l a) u y→y.eqv x∧u.p=y.until_∧u.p=(b:Int):=fun hc=>by
 obtain ⟨e,_⟩:=Gq hl h20 hab hb hq h;have hx:x.q=q∧x.base=(a:Int)∧x.ranges=EJ (Bb (l.take a)) q∧x.recs=F4 l a b:=by rw [e];exact ⟨rfl,rfl,rfl,rfl⟩
 obtain ⟨_,h2,h3,_,z,h5,h6⟩:=hc;rw [hy.1,hy.2.1,hy.2.2.1,hy.2.2.2,hx.1,hx.2.1,hx.2.2.1,hx.2.2.2]at h5;unfold EL at h;rw [h]at h5;injection h5 with h5
 subst h5;rw [hy.2.2.2,hx.2.2.2]at h3;exact ⟨h6,h2,WX hl (by omega) hab hb h3⟩
def exC(k n:Int):Chg:=⟨0,k,false,⟨0,0,0⟩,true,⟨n,0,0⟩⟩
def exL(p1 p2 p3:Option Addr):List Bt:=[⟨1,p1,1,[exC 5 10]⟩,⟨2,p2,1,[exC 6 99]⟩,⟨3,p3,1,[exC 7 11]⟩]
def exQ:QM:=⟨3,0,1,10,19,0,0⟩
theorem Fw:BP exQ:=by decide
theorem pK{p k n:Int}(hp:1≤p∧p≤10000)(h:(exC k n).ok):EU p [exC k n]:=⟨hp,⟨tO _,by show 1≤8;decide⟩,fun i c hc=>by
 match i,hc with
 |0,hc=>injection hc with hc;rw [←hc];exact h
 |i+1,hc=>simp at hc,fun i b c hb hc=>by simp at hc⟩
def exR:Nat→List AQ
 |0=>[]
 |1=>[⟨0,5,⟨10,0,0⟩⟩]
 |2=>[⟨0,5,⟨10,0,0⟩⟩,⟨0,6,⟨99,0,0⟩⟩]
 |_=>[⟨0,5,⟨10,0,0⟩⟩,⟨0,6,⟨99,0,0⟩⟩,⟨0,7,⟨11,0,0⟩⟩]
theorem aJ(p1 p2 p3:Option Addr):Bb ((exL p1 p2 p3).take 0)=exR 0∧Bb ((exL p1 p2 p3).take 1)=exR 1∧Bb ((exL p1 p2 p3).take 2)=exR 2∧Bb ((exL p1 p2 p3).take 3)=exR 3:=⟨rfl,by kernel_rfl,by kernel_rfl,by kernel_rfl⟩
theorem YN{rs:List AQ}{p k n:Int}(hp:1≤p+1∧p+1≤10000)(h:(exC k n).ok)(hf:Fa rs (exC k n))(hz:GJ rs [exC k n]≤2000):M5 rs p (p+1) [exC k n]:=⟨pK hp h,rfl,fun c hc=>by rw [tY.1 hc];exact hf,hz⟩
theorem YO(p1 p2 p3:Option Addr):DY (exL p1 p2 p3):=fun i r hr=>by
 obtain ⟨h0,h1,h2,_⟩:=aJ p1 p2 p3
 match i,hr with
 |0,hr=>injection hr with hr;subst hr;rw [h0];exact ⟨YN (p:=0) (by decide) (by decide) (by unfold Fa;decide) (by decide),by show 1≤3;decide⟩
 |1,hr=>injection hr with hr;subst hr;rw [h1];exact ⟨YN (p:=1) (by decide) (by decide) (by unfold Fa;decide) (by decide),by show 1≤3;decide⟩
 |2,hr=>injection hr with hr;subst hr;rw [h2];exact ⟨YN (p:=2) (by decide) (by decide) (by unfold Fa;decide) (by decide),by show 1≤3;decide⟩
 |i+3,hr=>simp [exL]at hr
theorem kN(p1 p2 p3:Option Addr):(∃x,EL (exL p1 p2 p3) 1 2 exQ=some x∧x.res.val=1∧x.since=1∧x.until_=2)∧∃y,EL (exL p1 p2 p3) 1 3 exQ=some y∧y.res.val=2∧y.since=3∧y.until_=3:=by
 have hl:=YO p1 p2 p3;obtain ⟨_,_,h2,h3⟩:=aJ p1 p2 p3;have hk:1≤exQ.kd∧exQ.kd≤4:=by decide
 refine ⟨?_,?_⟩
 · cases h:EL (exL p1 p2 p3) 1 2 exQ with
   |none=>exact absurd h (P8 hl (by show 3≤20;decide) (by decide) (by show 2≤3;decide) Fw hk)
   |some x=>
    obtain ⟨e,hs⟩:=Gq hl (by show 3≤20;decide) (by decide) (by show 2≤3;decide) Fw h;refine ⟨x,rfl,?_,?_,by rw [e];rfl⟩
    · rw [e,h2];exact (by decide:(Dh (exR 2) exQ).val=1)
    · obtain ⟨⟨a1,a2⟩,a3,_⟩:=hs
      rcases (by omega:x.since=1∨x.since=2)with h9|h9
      · exact h9
      · obtain ⟨j,r,hj,hr,ht⟩:=a3 (by rw [h9];decide)
        obtain rfl:j=1:=by omega
        injection hr with hr
        subst hr;have:Np exQ ⟨2,p2,1,[exC 6 99]⟩=false:=(by decide:[exC 6 99].any (Ei exQ)=false)
        rw [this]at ht;cases ht
 · cases h:EL (exL p1 p2 p3) 1 3 exQ with
   |none=>exact absurd h (P8 hl (by show 3≤20;decide) (by decide) (by show 3≤3;decide) Fw hk)
   |some x=>
    obtain ⟨e,hs⟩:=Gq hl (by show 3≤20;decide) (by decide) (by show 3≤3;decide) Fw h;refine ⟨x,rfl,?_,?_,by rw [e];rfl⟩
    · rw [e,h3];exact (by decide:(Dh (exR 3) exQ).val=2)
    · obtain ⟨⟨a1,a2⟩,_,a4⟩:=hs
      rcases (by omega:x.since=3∨x.since≤2)with h9|h9
      · exact h9
      · have ht:=a4 2 ⟨3,p3,1,[exC 7 11]⟩ (by omega) (by decide) rfl
        have:Np exQ ⟨3,p3,1,[exC 7 11]⟩=true:=(by decide:[exC 7 11].any (Ei exQ)=true);rw [this]at ht;cases ht
theorem kM(p1 p2 p3:Option Addr):Ex exQ 1 (EJ (Bb ((exL p1 p2 p3).take 1)) exQ) (F4 (exL p1 p2 p3) 2 3)=none:=by
 have hl:=YO p1 p2 p3;obtain ⟨hs,hn⟩:=hl.rows 1 (by show 1≤3;decide);have hst:=Fq hs hn (hl.rowsOk 1 (by show 1≤3;decide)) Fw (Ff hl (by show 3≤20;decide) (by show 1≤3;decide) exQ)
 rw [Jt hst (by show 1≤64;decide)];rw [show F4 (exL p1 p2 p3) 2 3=[⟨3,p3,1,[exC 7 11]⟩] from rfl];unfold Gg;rw [if_neg (fun h9=>by have:=h9.2.2;revert this;show(3:Int)=1+1+((0:Nat):Int)→False;decide)];rfl
theorem Wl:CK Tryz.prog 42 #[] [] (fun r H'=>∃g1 g2 g3 g0,r=I6 g0 3 3∧H'=[[(g1,.cells #[I4 0,I4 5,.bool false,I4 0,I4 0,I4 0,.bool true,I4 10,I4 0,I4 0] 77 (0,0))],[(g2,.cells #[I4 0,I4 6,.bool false,I4 0,I4 0,I4 0,.bool true,I4 99,I4 0,I4 0] 77 (0,0))],[(g3,.cells #[I4 0,I4 7,.bool false,I4 0,I4 0,I4 0,.bool true,I4 11,I4 0,I4 0] 77 (0,0))],[(g0,.cells #[I4 1,I6 g1 1 1,I4 2,I6 g2 1 1,I4 3,I6 g3 1 1] 73 (0,0))]]):=by
 refine Se func42 ntmps42 [] ?_;intro u R;refine Zq<|Zg<|Za Y<|Z0<|Zx<|Zq<|Zg<|Zv (BH (vs:=[(0,_),(1,_),(2,_)]) (cs:=#[_,_,_]) Y (Cj zeroValue75 underlying75 sizeOf3 rfl)) ?_;refine Zv (BH (vs:=[(1,I4 5),(4,.bool true),(5,.agg #[I4 10,I4 0,I4 0])]) (cs:=#[I4 0,I4 5,.bool false,I4 0,I4 0,I4 0,.bool true,I4 10,I4 0,I4 0]) Y (AX (pl:=#[(0,1),(1,1),(2,1),(3,3),(6,1),(7,3)]) zeroValue77 underlying77 (fun _=>by kernel_rfl) (by kernel_rfl))) ?_;refine Ze (Ae (vs:=[_]) (cs:=[_,_,_,_,_,_,_,_,_,_]) underlying71 sizeOf77 zeroValue77 Y rfl rfl rfl rfl rfl) ?_;rintro _ _ ⟨g1,rfl,rfl⟩;refine Zv (BH (vs:=[(0,_),(1,_)]) (cs:=#[_,_]) Y (AX (pl:=#[(0,1),(1,1)]) zeroValue73 underlying73 (fun _=>by kernel_rfl) rfl)) ?_;refine Zv (BH (vs:=[(0,_),(1,_),(2,_)]) (cs:=#[_,_,_]) Y (Cj zeroValue75 underlying75 sizeOf3 rfl)) ?_;refine Zv (BH (vs:=[(1,I4 6),(4,.bool true),(5,.agg #[I4 99,I4 0,I4 0])]) (cs:=#[I4 0,I4 6,.bool false,I4 0,I4 0,I4 0,.bool true,I4 99,I4 0,I4 0]) Y (AX (pl:=#[(0,1),(1,1),(2,1),(3,3),(6,1),(7,3)]) zeroValue77 underlying77 (fun _=>by kernel_rfl) (by kernel_rfl))) ?_;refine Ze (Ae (vs:=[_]) (cs:=[_,_,_,_,_,_,_,_,_,_]) underlying71 sizeOf77 zeroValue77 Y rfl rfl rfl rfl rfl) ?_;rintro _ _ ⟨g2,rfl,rfl⟩;refine Zv (BH (vs:=[(0,_),(1,_)]) (cs:=#[_,_]) Y (AX (pl:=#[(0,1),(1,1)]) zeroValue73 underlying73 (fun _=>by kernel_rfl) rfl)) ?_;refine Zv (BH (vs:=[(0,_),(1,_),(2,_)]) (cs:=#[_,_,_]) Y (Cj zeroValue75 underlying75 sizeOf3 rfl)) ?_;refine Zv (BH (vs:=[(1,I4 7),(4,.bool true),(5,.agg #[I4 11,I4 0,I4 0])]) (cs:=#[I4 0,I4 7,.bool false,I4 0,I4 0,I4 0,.bool true,I4 11,I4 0,I4 0]) Y (AX (pl:=#[(0,1),(1,1),(2,1),(3,3),(6,1),(7,3)]) zeroValue77 underlying77 (fun _=>by kernel_rfl) (by kernel_rfl))) ?_;refine Ze (Ae (vs:=[_]) (cs:=[_,_,_,_,_,_,_,_,_,_]) underlying71 sizeOf77 zeroValue77 Y rfl rfl rfl rfl rfl) ?_;rintro _ _ ⟨g3,rfl,rfl⟩;refine Zv (BH (vs:=[(0,_),(1,_)]) (cs:=#[_,_]) Y (AX (pl:=#[(0,1),(1,1)]) zeroValue73 underlying73 (fun _=>by kernel_rfl) rfl)) ?_
 refine Ze (Ae (vs:=[_,_,_]) (cs:=[_,_,_,_,_,_]) underlying28 sizeOf73 zeroValue73 Y rfl rfl rfl rfl rfl) ?_;rintro _ _ ⟨g0,rfl,rfl⟩;refine Za Y<|Z0<|Zn [0] ?_;refine Zx<|A9 ?_;refine AC rfl results42 Y (by exact ⟨g1,g2,g3,g0,rfl,rfl⟩)
structure ry(l:List Bt):Prop where
 ok:DY l
 len:l.length=3
 one:∃x,EL l 1 2 exQ=some x∧x.res.val=1∧x.since=1∧x.until_=2
 two:∃y,EL l 1 3 exQ=some y∧y.res.val=2∧y.since=3∧y.until_=3
 third:Ex exQ 1 (EJ (Bb (l.take 1)) exQ) (F4 l 2 l.length)=none
theorem Uk{M:List AV}{g:Nat}{T:TypeId}{z:Nat×Nat}{cur:Array Value}{c:Chg}(hm:(g,Obj.cells cur T z)∈M)(hs:10≤cur.size)(he:cur.extract 0 10=#[I4 c.t,I4 c.k,.bool c.had,I4 c.o.a,I4 c.o.b,I4 c.o.c,.bool c.has,I4 c.n.a,I4 c.n.b,I4 c.n.c]):Di M (I6 g [c].length 1) [c]:=⟨_,_,rfl,by show 1≤maxLen;decide,fun i x hx=>by
 match i,hx with
 |0,hx=>injection hx with hx;subst hx;exact ⟨g,0,cur,T,z,rfl,hm,by omega,by simpa using he⟩
 |i+1,hx=>simp at hx⟩
theorem eX:CK Tryz.prog 42 #[] [] (fun r H'=>∃(l:List Bt) (p:Option Addr) (cap:Nat) (M:List AV),ry l∧Dv M (.slice p l.length cap) l∧r= .slice p l.length cap∧H'=[M]):=by
 refine ES Wl rfl ?_;rintro r H' ⟨g1,g2,g3,g0,rfl,rfl⟩;obtain ⟨h1,h2⟩:=kN (some ⟨g1,0,none⟩) (some ⟨g2,0,none⟩) (some ⟨g3,0,none⟩);refine ⟨_,⟨exL (some ⟨g1,0,none⟩) (some ⟨g2,0,none⟩) (some ⟨g3,0,none⟩),some ⟨g0,0,none⟩,3,[(g1,.cells #[I4 0,I4 5,.bool false,I4 0,I4 0,I4 0,.bool true,I4 10,I4 0,I4 0] 77 (0,0)),(g2,.cells #[I4 0,I4 6,.bool false,I4 0,I4 0,I4 0,.bool true,I4 99,I4 0,I4 0] 77 (0,0)),(g3,.cells #[I4 0,I4 7,.bool false,I4 0,I4 0,I4 0,.bool true,I4 11,I4 0,I4 0] 77 (0,0)),(g0,.cells #[I4 1,I6 g1 1 1,I4 2,I6 g2 1 1,I4 3,I6 g3 1 1] 73 (0,0))],⟨YO _ _ _,rfl,h1,h2,kM _ _ _⟩,⟨_,_,rfl,⟨by show 3≤maxLen;decide,tO _⟩,fun i r hr=>?_⟩,rfl,rfl⟩,by simp⟩
 match i,hr with
 |0,hr=>injection hr with hr;subst hr;exact ⟨Uk (g:=g1) (c:=exC 5 10) (.head _) (by decide) rfl,g0,0,_,_,_,rfl,.tail _ (.tail _ (.tail _ (.head _))),wE rfl,rfl⟩
 |1,hr=>injection hr with hr;subst hr;exact ⟨Uk (g:=g2) (c:=exC 6 99) (.tail _ (.head _)) (by decide) rfl,g0,0,_,_,_,rfl,.tail _ (.tail _ (.tail _ (.head _))),wE rfl,rfl⟩
 |2,hr=>injection hr with hr;subst hr;exact ⟨Uk (g:=g3) (c:=exC 7 11) (.tail _ (.tail _ (.head _))) (by decide) rfl,g0,0,_,_,_,rfl,.tail _ (.tail _ (.tail _ (.head _))),wE rfl,rfl⟩
 |i+3,hr=>simp [exL]at hr
theorem P9{l:List Bt}(hl:DY l)(h20:l.length≤20){a b:Nat}(hab:a≤b)(hb:b≤l.length){q:QM}(hq:BP q){x:Mc}(h:EL l a b q=some x):(∀y∈x.ranges,y.small)∧x.ranges.length≤1000000∧(-1000000000000≤x.base∧x.base≤1000000000000)∧(∀r∈x.recs,r.cs.length≤1000)∧Fs x.q x.ranges=some (Dh (Bb (l.take a)) q):=by
 obtain ⟨hs,hn⟩:=hl.rows a (by omega);have hscan:=Ff hl h20 (by omega:a≤l.length) q
 have hst:=Fq hs hn (hl.rowsOk a (by omega)) hq hscan;have hm:=Lb (Bb (l.take a)) q
 obtain ⟨e,_⟩:=Gq hl h20 hab hb hq h;rw [e];exact ⟨Ou hs hn q,by show(EJ _ _).length≤_;omega,by show _≤(a:Int)∧(a:Int)≤_;omega,Kl hl a b,hst⟩
theorem jk{v:Value}{l:List Bt}{n:Nat}{s:List AV}(h:BX 3 67 v n (Gm (Kw l n)) s)(hn:0<n):∃g cap cur z,v=I6 g n cap∧s=[(g,.cells cur 67 z)]∧∀i,i<n→0+i*3+3≤cur.size∧cur.extract (0+i*3) (0+i*3+3)=#[I4 (EP l i).p,.string (str (EP l i).ch),.string (str (EP l i).st)]:=by
 obtain ⟨g,cap,cur,z,rfl,rfl,_,_⟩:=Dc h hn;refine ⟨g,cap,cur,z,rfl,rfl,fun i hi=>?_⟩;obtain ⟨g',cap',cur',z',hv,hs,hsz,hex⟩:=HY h i hi;injection hs with hs
 injection hs with hs1 hs2
 injection hs2 with hs2 hs3 hs4
 subst hs2;rw [uJ];refine ⟨hsz,vX.1 ?_⟩;rw [hex];exact GM (fun h:Cg=>[I4 h.p,.string (str h.ch),.string (str h.st)]) 3 (fun _=>rfl) (Kw l n) i (EP l i) (by unfold Kw;rw [tu,xP hi];rfl)
theorem mP{A M:List AV}{x y:KU}(hx:x.ok (A++M))(hy:y.ok (A++M)):Au Tryz.prog 28 #[.agg #[I4 x.a.q.kd,I4 x.a.q.tb,I4 x.a.q.cl,I4 x.a.q.lo,I4 x.a.q.hi,I4 x.a.q.bq,I4 x.a.q.ot,.slice x.rp x.a.res.rows.length x.rc,I4 x.a.res.val,.bool x.a.res.fnd,I4 x.a.since,I4 x.a.until_,I4 x.a.base,.slice x.gp x.a.ranges.length x.gc,.slice x.cp x.a.recs.length x.cc],.agg #[I4 y.a.q.kd,I4 y.a.q.tb,I4 y.a.q.cl,I4 y.a.q.lo,I4 y.a.q.hi,I4 y.a.q.bq,I4 y.a.q.ot,.slice y.rp y.a.res.rows.length y.rc,I4 y.a.res.val,.bool y.a.res.fnd,I4 y.a.since,I4 y.a.until_,I4 y.a.base,.slice y.gp y.a.ranges.length y.gc,.slice y.cp y.a.recs.length y.cc]] [A,M] (.bool (decide (x.a.eqv y.a))):=by
 refine ES (MF hx hy) (by simp) ?_;rintro r H' ⟨rfl,rfl⟩;exact ⟨_,⟨rfl,rfl⟩,by simp⟩
theorem mO{A B M:List AV}{x y:KU}(hx:x.ok (A++M))(hy:y.ok (B++M)):Au Tryz.prog 28 #[.agg #[I4 x.a.q.kd,I4 x.a.q.tb,I4 x.a.q.cl,I4 x.a.q.lo,I4 x.a.q.hi,I4 x.a.q.bq,I4 x.a.q.ot,.slice x.rp x.a.res.rows.length x.rc,I4 x.a.res.val,.bool x.a.res.fnd,I4 x.a.since,I4 x.a.until_,I4 x.a.base,.slice x.gp x.a.ranges.length x.gc,.slice x.cp x.a.recs.length x.cc],.agg #[I4 y.a.q.kd,I4 y.a.q.tb,I4 y.a.q.cl,I4 y.a.q.lo,I4 y.a.q.hi,I4 y.a.q.bq,I4 y.a.q.ot,.slice y.rp y.a.res.rows.length y.rc,I4 y.a.res.val,.bool y.a.res.fnd,I4 y.a.since,I4 y.a.until_,I4 y.a.base,.slice y.gp y.a.ranges.length y.gc,.slice y.cp y.a.recs.length y.cc]] [A,B,M] (.bool (decide (x.a.eqv y.a))):=by
 refine ES (MF (hx.mono (M':=A++(B++M)) (fun c hc=>by rcases u7.1 hc with h9|h9;exact uM _ h9;exact tq _ (tq _ h9))) (hy.mono (fun c hc=>tq A hc))) (by simp) ?_;rintro r H' ⟨rfl,rfl⟩;exact ⟨_,⟨rfl,rfl⟩,by simp⟩
theorem fG:¬BP ⟨0,0,0,0,0,0,0⟩:=by decide
set_option maxHeartbeats 4000000 in
theorem oq(Tg:TypeId)(zg:Nat×Nat):Au Tryz.prog 11 #[] [[(1,.cells (Ct.map Bn).toArray Tg zg)]] (.bool true):=by
 have hml:=mL;refine Se func11 ntmps11 [] ?_;intro u R;refine Zq<|Zg<|Za Y<|Z0<|Zx<|Zq<|Zg<|Zc [] Y call42 Y rfl (eX) ?_;rintro _ _ ⟨_,⟨l,p,cap,M,hex,hRI,rfl,rfl⟩,rfl⟩;have hlen:=hex.len
 obtain ⟨L1,hL1⟩:∃L,L=EJ (Bb (l.take 1)) exQ:=⟨_,rfl⟩;refine Za Y<|Z0<|Zx<|Zq<|Zg<|Zv (BH (vs:=[(0,I4 3),(2,I4 1),(3,I4 10),(4,I4 19)]) (cs:=#[I4 3,I4 0,I4 1,I4 10,I4 19,I4 0,I4 0]) Y (AX (pl:=#[(0,1),(1,1),(2,1),(3,1),(4,1),(5,1),(6,1)]) zeroValue30 underlying30 (fun _=>by kernel_rfl) (by kernel_rfl))) ?_;refine Ze (Al zeroValue30 #[_,_,_,_,_,_,_]) ?_;rintro _ _ ⟨bq,rfl,rfl⟩;refine Xe (Xw sizeOf30 #[I4 3,I4 0,I4 1,I4 10,I4 19,I4 0,I4 0]) ?_;refine Z0<|Zx<|Zq<|Zg<|Zm Y<|Zo Wh (Ab (cs:=#[_,_,_,_,_,_,_]) isAgg30 sizeOf30 Y Wb (by exact BA rfl)) ?_;refine Zc [_,_,_,_] Y call29 Y rfl (aO hRI hex.ok (by omega) 1 2 (by decide) (by omega) exQ Fw Tg zg) ?_;rintro _ _ ⟨_,⟨z1,E1,t1,pg1,cg1,hz1,hR1,rfl,rfl⟩,rfl⟩;obtain ⟨x1,hx1,hv1,hs1,hu1⟩:=hex.one;obtain ⟨rfl,hb1,hzo1⟩:t1=true∧EL l 1 2 exQ=some z1.a∧z1.ok (E1++M):=by rcases hz1 with h9|⟨_,h9⟩;exact h9;rw [hx1]at h9;cases h9
 obtain rfl:x1=z1.a:=by rw [hx1]at hb1;injection hb1
 rw [←hL1]at hR1⊢;obtain ⟨f11,f12,f13,f14,f15⟩:=P9 hex.ok (by omega) (by decide) (by omega) Fw hb1;have ck1:=PD hex.ok (by omega) (by decide:1≤2) (by omega) Fw hb1
 refine Zm Y<|Zd Y rfl<|Zd Y rfl<|Zd Y rfl<|Ze (Al zeroValue57 #[_,_,_,_,_,_,_,_,_,_]) ?_;rintro _ _ ⟨b3,rfl,rfl⟩;refine Ze (Al zeroValue53 #[_,_,_,_,_,_,_,_,_,_,_,_,_,_,_]) ?_;rintro _ _ ⟨b4,rfl,rfl⟩;refine Xe (Xw sizeOf57 #[I4 3,I4 0,I4 1,I4 10,I4 19,I4 0,I4 0,I4 0,I4 1,.slice pg1 L1.length cg1]) ?_;refine Xe (Xw sizeOf53 #[I4 z1.a.q.kd,I4 z1.a.q.tb,I4 z1.a.q.cl,I4 z1.a.q.lo,I4 z1.a.q.hi,I4 z1.a.q.bq,I4 z1.a.q.ot,.slice z1.rp z1.a.res.rows.length z1.rc,I4 z1.a.res.val,.bool z1.a.res.fnd,I4 z1.a.since,I4 z1.a.until_,I4 z1.a.base,.slice z1.gp z1.a.ranges.length z1.gc,.slice z1.cp z1.a.recs.length z1.cc]) ?_;refine Za Y<|Z0<|Zn [1,2,3,4,5] ?_;refine Zx<|Zq<|Zg<|Zm Y<|Zo Wh (Ab (cs:=#[_,_,_,_,_,_,_]) isAgg30 sizeOf30 Y Wb (by exact BA rfl)) ?_;refine Zc [_,_,_,_] Y call29 Y rfl (aO hRI hex.ok (by omega) 1 3 (by decide) (by omega) exQ Fw Tg zg) ?_;rintro _ _ ⟨_,⟨z2,E2,t2,pg2,cg2,hz2,hR2,rfl,rfl⟩,rfl⟩;obtain ⟨x2,hx2,hv2,hs2,hu2⟩:=hex.two;obtain ⟨rfl,hb2,hzo2⟩:t2=true∧EL l 1 3 exQ=some z2.a∧z2.ok (E2++M):=by rcases hz2 with h9|⟨_,h9⟩;exact h9;rw [hx2]at h9;cases h9
 obtain rfl:x2=z2.a:=by rw [hx2]at hb2;injection hb2
 rw [←hL1]at hR2⊢;obtain ⟨f21,f22,f23,f24,f25⟩:=P9 hex.ok (by omega) (by decide) (by omega) Fw hb2;have ck2:=PD hex.ok (by omega) (by decide:1≤3) (by omega) Fw hb2
 refine Zm Y<|Zd Y rfl<|Zd Y rfl<|Zd Y rfl<|Ze (Al zeroValue57 #[_,_,_,_,_,_,_,_,_,_]) ?_;rintro _ _ ⟨b6,rfl,rfl⟩;refine Ze (Al zeroValue53 #[_,_,_,_,_,_,_,_,_,_,_,_,_,_,_]) ?_;rintro _ _ ⟨b7,rfl,rfl⟩;refine Xe (Xw sizeOf57 #[I4 3,I4 0,I4 1,I4 10,I4 19,I4 0,I4 0,I4 0,I4 1,.slice pg2 L1.length cg2]) ?_;refine Xe (Xw sizeOf53 #[I4 z2.a.q.kd,I4 z2.a.q.tb,I4 z2.a.q.cl,I4 z2.a.q.lo,I4 z2.a.q.hi,I4 z2.a.q.bq,I4 z2.a.q.ot,.slice z2.rp z2.a.res.rows.length z2.rc,I4 z2.a.res.val,.bool z2.a.res.fnd,I4 z2.a.since,I4 z2.a.until_,I4 z2.a.base,.slice z2.gp z2.a.ranges.length z2.gc,.slice z2.cp z2.a.recs.length z2.cc]) ?_;refine Za Y<|Z0<|Zx<|Zb [3,1,4,5,7,8] ?_;refine CY (e0:=[(3,_)]) (H0:=[E1,M]) (fun e H=>(True)∧e=[(10,.bool false)]∧H=[E1,M]) Wp ?hx_1 ?hy_1
 case hx_1=>
  refine BJ (n:=10) (0::0::2::7::15::31::31::0::191::511::[]) 392 (by kernel_rfl) (by kernel_rfl) rfl ?_;refine DX (D':=1) 0 rfl rfl rfl Wh (Ab (cs:=#[_,_,_,_,_,_,_,_,_,_]) isAgg57 sizeOf57 Y (by exact tO _) (by exact BA rfl)) ?_;refine Zi 3 1 rfl (AJ Y) ?_;refine Zi 7 2 rfl (C8 (l:=2) underlying28 sizeOf73 Y Y (by omega)) ?_;refine Zz (l:=[3,7]) ?_;refine Zy 7 15 [0] [false] [] rfl Y rfl rfl rfl rfl (Zw [_,_] Y call18 Y rfl (NW exQ 0 1 (by decide) hR1 (by rw [hL1];have:=Lb (Bb (l.take 1)) exQ;have:=Ff hex.ok (by omega) (by omega:1≤l.length) exQ;omega) (by rw [hL1];exact Fq (hex.ok.rows 1 (by omega)).1 (hex.ok.rows 1 (by omega)).2 (hex.ok.rowsOk 1 (by omega)) Fw (Ff hex.ok (by omega) (by omega) exQ)) (G9 (Mx (a:=2) hRI (by omega) (tO _)) (fun c hc=>tq E1 hc)) (Kl hex.ok 2 l.length))) ?hk_2 D9 ?hl_2
  case hk_2=>
   rintro _ _ ⟨_,⟨z9,s9,t9,hz9,rfl,rfl⟩,rfl⟩;refine ⟨Ad,?_⟩;obtain rfl:t9=false:=by rcases hz9 with⟨_,h9,_⟩|⟨h9,_⟩;rw [hL1,show(l.drop 2).take (l.length -2)=F4 l 2 l.length from rfl,hex.third]at h9;cases h9;exact h9
   refine Zi 31 4 rfl (AJ Y)<|Zi 63 5 rfl (CL Y rfl)<|Zi 127 6 rfl (CL Y rfl)<|Zz (l:=[7]) ?_;refine Zy 0 255 [] [] [] rfl Y rfl rfl rfl rfl (Al zeroValue53 #[_,_,_,_,_,_,_,_,_,_,_,_,_,_,_]) ?hk_3 (fun _ _ h=>h.elim) ?hl_3
   case hk_3=>
    rintro _ _ ⟨b9,rfl,rfl⟩;refine ⟨Ad,?_⟩;refine Yw 8 511 rfl (Xw sizeOf53 #[I4 z9.a.q.kd,I4 z9.a.q.tb,I4 z9.a.q.cl,I4 z9.a.q.lo,I4 z9.a.q.hi,I4 z9.a.q.bq,I4 z9.a.q.ot,.slice z9.rp z9.a.res.rows.length z9.rc,I4 z9.a.res.val,.bool z9.a.res.fnd,I4 z9.a.since,I4 z9.a.until_,I4 z9.a.base,.slice z9.gp z9.a.ranges.length z9.gc,.slice z9.cp z9.a.recs.length z9.cc]) ?_;rintro _ _ ⟨rfl,rfl⟩;refine Zi 1023 9 rfl (Aw Y)<|Am ?_;refine Zn [10,1,4,5,7,8] ?_;refine BB (e':=[(10,_)]) (by exact ⟨trivial,rfl,rfl⟩)
   exact Av
  refine Zy 0 135 [0] [true] [(0,(_,_))] rfl Y rfl rfl rfl rfl (Al zeroValue53 #[_,_,_,_,_,_,_,_,_,_,_,_,_,_,_]) ?hk_6 (fun _ _ h=>h.elim) ?hl_6
  case hk_6=>
   rintro _ _ ⟨b9,rfl,rfl⟩;refine ⟨Zk (Ad),?_⟩;refine Zz (l:=[3]) ?_;refine Zy 7 143 [0] [false] [] rfl Y rfl rfl rfl rfl (Zw [_,_] Y call18 Y rfl (NW exQ 0 1 (by decide) hR1 (by rw [hL1];have:=Lb (Bb (l.take 1)) exQ;have:=Ff hex.ok (by omega) (by omega:1≤l.length) exQ;omega) (by rw [hL1];exact Fq (hex.ok.rows 1 (by omega)).1 (hex.ok.rows 1 (by omega)).2 (hex.ok.rowsOk 1 (by omega)) Fw (Ff hex.ok (by omega) (by omega) exQ)) (G9 (Mx (a:=2) hRI (by omega) (tO _)) (fun c hc=>tq E1 hc)) (Kl hex.ok 2 l.length))) ?hk_7 D9 ?hl_7
   case hk_7=>
    rintro _ _ ⟨_,⟨z9,s9,t9,hz9,rfl,rfl⟩,rfl⟩;refine ⟨Ad,?_⟩;obtain rfl:t9=false:=by rcases hz9 with⟨_,h9,_⟩|⟨h9,_⟩;rw [hL1,show(l.drop 2).take (l.length -2)=F4 l 2 l.length from rfl,hex.third]at h9;cases h9;exact h9
    refine Zi 159 4 rfl (AJ Y)<|Zi 191 5 rfl (CL Y rfl)<|Zi 255 6 rfl (CL Y rfl)<|Zz (l:=[8]) ?_;refine Zy 191 511 [] [] [] rfl Y rfl rfl rfl rfl (Xw sizeOf53 #[I4 z9.a.q.kd,I4 z9.a.q.tb,I4 z9.a.q.cl,I4 z9.a.q.lo,I4 z9.a.q.hi,I4 z9.a.q.bq,I4 z9.a.q.ot,.slice z9.rp z9.a.res.rows.length z9.rc,I4 z9.a.res.val,.bool z9.a.res.fnd,I4 z9.a.since,I4 z9.a.until_,I4 z9.a.base,.slice z9.gp z9.a.ranges.length z9.gc,.slice z9.cp z9.a.recs.length z9.cc]) ?hk_8 (fun _ _ h=>h.elim) ?hl_8
    case hk_8=>
     rintro _ _ ⟨rfl,rfl⟩;refine ⟨Ad,?_⟩;refine Zi 1023 9 rfl (Aw Y)<|Am ?_;refine Zn [10,1,4,5,7,8] ?_;refine BB (e':=[(10,_)]) (by exact ⟨trivial,rfl,rfl⟩)
    exact Av
   exact Av
  exact Av
 rintro _ _ ⟨_,rfl,rfl⟩;refine Zq<|Zg<|Zm Y<|Zc [_] Y call22 Y rfl (bO hRI hex.ok (by omega)) ?_;rintro _ _ ⟨_,⟨sh,hsh,rfl⟩,rfl⟩;rw [hlen]at hsh;obtain ⟨gh,ch,curh,zh,rfl,rfl,hw⟩:=jk hsh (by decide);have hw1:=hw 1 (by decide)
 have hw2:=hw 2 (by decide);have hw3:=hw 3 (by decide)
 have hp2:=(J2 hex.ok (by omega) 2 (by omega)).2.1;obtain ⟨h1,hh1⟩:∃h,h=EP l 1:=⟨_,rfl⟩;obtain ⟨h2,hh2⟩:∃h,h=EP l 2:=⟨_,rfl⟩;obtain ⟨h3,hh3⟩:∃h,h=EP l 3:=⟨_,rfl⟩;rw [←hh1]at hw1;rw [←hh2]at hw2;rw [←hh3]at hw3;rw [←hh1,←hh2]at ck1;rw [←hh1,←hh3]at ck2;rw [←hh2]at hp2;obtain ⟨e1,_⟩:=Gq hex.ok (by omega) (by decide:1≤3) (by omega) Fw hb2;have hba2:z2.a.base=1:=by rw [e1];rfl
 have ck3:¬II h1 h3 (⟨⟨z2.a.q,⟨z2.a.res.rows,1,z2.a.res.fnd⟩,z2.a.since,z2.a.until_,z2.a.base,z2.a.ranges,z2.a.recs⟩,z2.rp,z2.rc,z2.gp,z2.gc,z2.cp,z2.cc⟩:KU).a:=fun h9=>by have h8:=(YW hex.ok (by omega) (by decide:1≤3) (by omega) Fw hb2 (y:=(⟨⟨z2.a.q,⟨z2.a.res.rows,1,z2.a.res.fnd⟩,z2.a.since,z2.a.until_,z2.a.base,z2.a.ranges,z2.a.recs⟩,z2.rp,z2.rc,z2.gp,z2.gc,z2.cp,z2.cc⟩:KU).a) ⟨rfl,rfl,rfl,rfl⟩ (u:=h3) (by rw [←hh1];exact h9)).1.2.2.2.2.1;have h7:=congrArg CO.val h8;rw [hv2]at h7;revert h7;show¬(1:Int)=2;decide
 have ck4:¬II h2 h3 z2.a:=fun h9=>by have h8:=h9.1;rw [hp2,hba2]at h8;revert h8;decide
 have sm1:z1.a.eqv z1.a:=z1.a.eqv_refl;have sm2:¬z1.a.eqv z2.a:=fun h9=>by have h8:=h9.2.1;rw [hs1,hs2]at h8;revert h8;decide
 refine Za Y<|Z0<|Zx<|Zq<|Zg<|Zo Wh (Ab (cs:=#[I4 z2.a.q.kd,I4 z2.a.q.tb,I4 z2.a.q.cl,I4 z2.a.q.lo,I4 z2.a.q.hi,I4 z2.a.q.bq,I4 z2.a.q.ot,.slice z2.rp z2.a.res.rows.length z2.rc,I4 z2.a.res.val,.bool z2.a.res.fnd,I4 z2.a.since,I4 z2.a.until_,I4 z2.a.base,.slice z2.gp z2.a.ranges.length z2.gc,.slice z2.cp z2.a.recs.length z2.cc]) isAgg53 sizeOf53 Y Wb (by exact BA rfl)) ?_;refine Ze (Al zeroValue53 #[_,_,_,_,_,_,_,_,_,_,_,_,_,_,_]) ?_;rintro _ _ ⟨bc,rfl,rfl⟩;refine Xe (Xw sizeOf53 #[I4 z2.a.q.kd,I4 z2.a.q.tb,I4 z2.a.q.cl,I4 z2.a.q.lo,I4 z2.a.q.hi,I4 z2.a.q.bq,I4 z2.a.q.ot,.slice z2.rp z2.a.res.rows.length z2.rc,I4 z2.a.res.val,.bool z2.a.res.fnd,I4 z2.a.since,I4 z2.a.until_,I4 z2.a.base,.slice z2.gp z2.a.ranges.length z2.gc,.slice z2.cp z2.a.recs.length z2.cc]) ?_;refine Z0<|Zx<|Zq<|Zg<|Zh 7 underlying53 rfl rfl sizeOf51 Y<|Zv (BI (off:=1) underlying51 rfl rfl sizeOf3 Y)<|Xe (Zs sizeOf3 Y Y rfl (hc:=by exact (rfl:_=(#[I4 z2.a.q.kd,I4 z2.a.q.tb,I4 z2.a.q.cl,I4 z2.a.q.lo,I4 z2.a.q.hi,I4 z2.a.q.bq,I4 z2.a.q.ot,.slice z2.rp z2.a.res.rows.length z2.rc,I4 1,.bool z2.a.res.fnd,I4 z2.a.since,I4 z2.a.until_,I4 z2.a.base,.slice z2.gp z2.a.ranges.length z2.gc,.slice z2.cp z2.a.recs.length z2.cc]:Array Value))) (hi:=by first|omega|decide|(simp;done))) ?_;refine Z0<|Zx<|Zq<|Zg<|Zc [] Y call43 Y rfl (gQ) ?_;rintro _ _ ⟨_,⟨sp9,mb9,rfl,rfl⟩,rfl⟩;refine Zv (BH (vs:=[]) (cs:=#[I4 0,I4 0,I4 0,I4 0,I4 0,I4 0,I4 0]) Y (AX (pl:=#[(0,1),(1,1),(2,1),(3,1),(4,1),(5,1),(6,1)]) zeroValue30 underlying30 (fun _=>by kernel_rfl) (by kernel_rfl))) ?_;refine Xr [_,_] Y call15 Y rfl (Qn (s:=[]) ⟨0,0,0,0,0,0,0⟩ fG) ?_;refine Zm Y<|Zd Y rfl<|Zd Y rfl<|Za Y<|Za Y<|Z0<|Zn [4,5,7,8,10,11,12,14] ?_
 refine Zx<|Zq<|BJ (n:=98) (0::1::3::7::15::31::63::127::255::511::1023::2047::4095::8191::16383::32767::65535::131071::262143::524287::1048575::2097151::4194303::8388607::16777215::33554431::67108863::134217727::268435455::536870911::1073741823::2147483647::4294967295::8589934591::17179869183::34359738367::68719476735::137438953471::274877906943::549755813887::1099511627775::2199023255551::4398046511103::8796093022207::2199023255551::19791209299967::54975581388799::2199023255551::281474976710655::562949953421311::1125899906842623::2251799813685247::4503599627370495::9007199254740991::2251799813685247::20266198323167231::56294995342131199::2251799813685247::288230376151711743::576460752303423487::1152921504606846975::2305843009213693951::4611686018427387903::9223372036854775807::2305843009213693951::20752587082923245567::57646075230342348799::2305843009213693951::295147905179352825855::590295810358705651711::1180591620717411303423::2361183241434822606847::4722366482869645213695::9444732965739290427391::18889465931478580854783::4722366482869645213695::42501298345826806923263::118059162071741130342399::4722366482869645213695::604462909807314587353087::1208925819614629174706175::2417851639229258349412351::4835703278458516698824703::9671406556917033397649407::9671406556917033397649407::38685626227668133590597631::77371252455336267181195263::154742504910672534362390527::309485009821345068724781055::309485009821345068724781055::1237940039285380274899124223::2475880078570760549798248447::4951760157141521099596496895::9903520314283042199192993791::19807040628566084398385987583::39614081257132168796771975167::79228162514264337593543950335::158456325028528675187087900671::[]) 1277230423859272753558323200 (by kernel_rfl) (by kernel_rfl) rfl ?_;refine Zi 1 0 rfl (AJ Y)<|Zi 3 1 rfl (AJ Y) ?_;refine CW (t:=50) Y (fun k1=>?_) (fun k1=>?_)
 ·
  first|rw [decide_eq_true k1]|rw [k1]|skip
  refine Ai (D':=7) 2 Y rfl rfl rfl (AJ Y) ?_;refine Zi 15 3 rfl (AL Y Y)<|Zi 31 4 rfl (AJ Y) ?_;refine CW (t:=53) Y (fun k2=>?_) (fun k2=>?_)
  ·
   first|rw [decide_eq_true k2]|rw [k2]|skip
   refine Ai (D':=63) 5 Y rfl rfl rfl (AJ Y) ?_;refine Ai (D':=127) 6 Y rfl rfl rfl (CV Y) ?_;refine Zi 255 7 rfl (AL Y Y)<|Zi 511 8 rfl (AJ Y) ?_;refine CW (t:=57) Y (fun k3=>?_) (fun k3=>?_)
   ·
    first|rw [decide_eq_true k3]|rw [k3]|skip
    refine Ai (D':=1023) 9 Y rfl rfl rfl (AU (off:=7) underlying53 rfl rfl sizeOf51 Y) ?_;refine Ai (D':=2047) 10 Y rfl rfl rfl (BI (off:=1) underlying51 rfl rfl sizeOf3 Y) ?_;refine Bl (D':=4095) 11 Y rfl rfl rfl Wh (Bf isAgg3 Y (by rfl)) ?_;refine Ai (D':=8191) 12 Y rfl rfl rfl (CE Y Y) ?_;refine Zi 16383 13 rfl (AL Y Y)<|Zi 32767 14 rfl (AJ Y) ?_;refine CR (t:=63) Y (fun k4=>?_) (fun k4=>?_)
    ·
     first|rw [decide_eq_true k4]|rw [k4]|skip
     refine Ai (D':=65535) 15 Y rfl rfl rfl (AU (off:=10) underlying53 rfl rfl sizeOf3 Y) ?_;refine Bl (D':=131071) 16 Y rfl rfl rfl Wh (Bf isAgg3 Y (by rfl)) ?_;refine Ai (D':=262143) 17 Y rfl rfl rfl (CE Y Y) ?_;refine Zi 524287 18 rfl (AL Y Y)<|Zi 1048575 19 rfl (AJ Y) ?_;refine CR (t:=68) Y (fun k5=>?_) (fun k5=>?_)
     ·
      first|rw [decide_eq_true k5]|rw [k5]|skip
      refine Ai (D':=2097151) 20 Y rfl rfl rfl (AU (off:=11) underlying53 rfl rfl sizeOf3 Y) ?_;refine Bl (D':=4194303) 21 Y rfl rfl rfl Wh (Bf isAgg3 Y (by rfl)) ?_;refine Ai (D':=8388607) 22 Y rfl rfl rfl (CE Y Y) ?_;refine Zi 16777215 23 rfl (AL Y Y)<|Zi 33554431 24 rfl (AJ Y) ?_;refine CR (t:=73) Y (fun k6=>?_) (fun k6=>?_)
      ·
       first|rw [decide_eq_true k6]|rw [k6]|skip
       refine Ai (D':=67108863) 25 Y rfl rfl rfl (AU (off:=7) underlying53 rfl rfl sizeOf51 Y) ?_;refine Ai (D':=134217727) 26 Y rfl rfl rfl (BI (off:=1) underlying51 rfl rfl sizeOf3 Y) ?_;refine Bl (D':=268435455) 27 Y rfl rfl rfl Wh (Bf isAgg3 Y (by rfl)) ?_;refine Ai (D':=536870911) 28 Y rfl rfl rfl (CE Y Y) ?_;refine Zi 1073741823 29 rfl (AL Y Y)<|Zi 2147483647 30 rfl (AJ Y) ?_;refine CR (t:=79) Y (fun k7=>?_) (fun k7=>?_)
       ·
        first|rw [decide_eq_true k7]|rw [k7]|skip
        refine Ai (D':=4294967295) 31 Y rfl rfl rfl (AU (off:=10) underlying53 rfl rfl sizeOf3 Y) ?_;refine Bl (D':=8589934591) 32 Y rfl rfl rfl Wh (Bf isAgg3 Y (by rfl)) ?_;refine Ai (D':=17179869183) 33 Y rfl rfl rfl (CE Y Y) ?_;refine Zi 34359738367 34 rfl (AL Y Y)<|Zi 68719476735 35 rfl (AJ Y) ?_;refine CR (t:=84) Y (fun k8=>?_) (fun k8=>?_)
        ·
         first|rw [decide_eq_true k8]|rw [k8]|skip
         refine Ai (D':=137438953471) 36 Y rfl rfl rfl (AU (off:=11) underlying53 rfl rfl sizeOf3 Y) ?_;refine Bl (D':=274877906943) 37 Y rfl rfl rfl Wh (Bf isAgg3 Y (by rfl)) ?_;refine Ai (D':=549755813887) 38 Y rfl rfl rfl (CE Y Y) ?_;refine Zi 1099511627775 39 rfl (AL Y Y)<|Zi 2199023255551 40 rfl (AJ Y) ?_;refine CR (t:=89) Y (fun k9=>?_) (fun k9=>?_)
         ·
          first|rw [decide_eq_true k9]|rw [k9]|skip
          refine Ai (D':=4398046511103) 41 Y rfl rfl rfl (AJ Y) ?_;refine Ai (D':=8796093022207) 42 Y rfl rfl rfl (AZ (j:=1) underlying60 sizeOf67 Y Y (by omega)) ?_;refine Bl (D':=17592186044415) 43 Y rfl rfl rfl Wh (Ab (cs:=#[I4 h1.p,.string (str h1.ch),.string (str h1.st)]) isAgg67 sizeOf67 Y (hw1).1 (hw1).2) ?_;refine Ai (D':=35184372088831) 44 Y rfl rfl rfl (AJ Y) ?_;refine Ai (D':=70368744177663) 45 Y rfl rfl rfl (AZ (j:=2) underlying60 sizeOf67 Y Y (by omega)) ?_;refine Bl (D':=140737488355327) 46 Y rfl rfl rfl Wh (Ab (cs:=#[I4 h2.p,.string (str h2.ch),.string (str h2.st)]) isAgg67 sizeOf67 Y (hw2).1 (hw2).2) ?_;refine Bl (D':=281474976710655) 47 Y rfl rfl rfl Wh (Ab (cs:=#[_,_,_,_,_,_,_,_,_,_,_,_,_,_,_]) isAgg53 sizeOf53 Y (by exact tO _) (by exact BA rfl)) ?_;refine Yw 48 562949953421311 rfl (Zu [_,_,_] Y call26 Y rfl (NV h1 h2 hzo1 f11 f12 f13 f14 f15 Tg zg)) ?_;rintro _ _ ⟨rfl,rfl⟩;rw [decide_eq_true ck1];refine Zi 1125899906842623 49 rfl (AL Y Y)<|Zi 2251799813685247 50 rfl (AJ Y) ?_;refine CW (t:=99) Y (fun k10=>?_) (fun k10=>?_)
          ·
           first|rw [decide_eq_true k10]|rw [k10]|skip
           refine Ai (D':=4503599627370495) 51 Y rfl rfl rfl (AJ Y) ?_;refine Ai (D':=9007199254740991) 52 Y rfl rfl rfl (AZ (j:=1) underlying60 sizeOf67 Y Y (by omega)) ?_;refine Bl (D':=18014398509481983) 53 Y rfl rfl rfl Wh (Ab (cs:=#[I4 h1.p,.string (str h1.ch),.string (str h1.st)]) isAgg67 sizeOf67 Y (hw1).1 (hw1).2) ?_;refine Ai (D':=36028797018963967) 54 Y rfl rfl rfl (AJ Y) ?_;refine Ai (D':=72057594037927935) 55 Y rfl rfl rfl (AZ (j:=3) underlying60 sizeOf67 Y Y (by omega)) ?_;refine Bl (D':=144115188075855871) 56 Y rfl rfl rfl Wh (Ab (cs:=#[I4 h3.p,.string (str h3.ch),.string (str h3.st)]) isAgg67 sizeOf67 Y (hw3).1 (hw3).2) ?_;refine Bl (D':=288230376151711743) 57 Y rfl rfl rfl Wh (Ab (cs:=#[_,_,_,_,_,_,_,_,_,_,_,_,_,_,_]) isAgg53 sizeOf53 Y (by exact tO _) (by exact BA rfl)) ?_;refine Yw 58 576460752303423487 rfl (Zu [_,_,_] Y call26 Y rfl (NV h1 h3 hzo2 f21 f22 f23 f24 f25 Tg zg)) ?_;rintro _ _ ⟨rfl,rfl⟩;rw [decide_eq_true ck2];refine Zi 1152921504606846975 59 rfl (AL Y Y)<|Zi 2305843009213693951 60 rfl (AJ Y) ?_;refine CW (t:=109) Y (fun k11=>?_) (fun k11=>?_)
           ·
            first|rw [decide_eq_true k11]|rw [k11]|skip
            refine Ai (D':=4611686018427387903) 61 Y rfl rfl rfl (AJ Y) ?_;refine Ai (D':=9223372036854775807) 62 Y rfl rfl rfl (AZ (j:=1) underlying60 sizeOf67 Y Y (by omega)) ?_;refine Bl (D':=18446744073709551615) 63 Y rfl rfl rfl Wh (Ab (cs:=#[I4 h1.p,.string (str h1.ch),.string (str h1.st)]) isAgg67 sizeOf67 Y (hw1).1 (hw1).2) ?_;refine Ai (D':=36893488147419103231) 64 Y rfl rfl rfl (AJ Y) ?_;refine Ai (D':=73786976294838206463) 65 Y rfl rfl rfl (AZ (j:=3) underlying60 sizeOf67 Y Y (by omega)) ?_;refine Bl (D':=147573952589676412927) 66 Y rfl rfl rfl Wh (Ab (cs:=#[I4 h3.p,.string (str h3.ch),.string (str h3.st)]) isAgg67 sizeOf67 Y (hw3).1 (hw3).2) ?_;refine Bl (D':=295147905179352825855) 67 Y rfl rfl rfl Wh (Ab (cs:=#[_,_,_,_,_,_,_,_,_,_,_,_,_,_,_]) isAgg53 sizeOf53 Y (by exact tO _) (by exact BA rfl)) ?_;refine Yw 68 590295810358705651711 rfl (Zu [_,_,_] Y call26 Y rfl (NV h1 h3 (z:=(⟨⟨z2.a.q,⟨z2.a.res.rows,1,z2.a.res.fnd⟩,z2.a.since,z2.a.until_,z2.a.base,z2.a.ranges,z2.a.recs⟩,z2.rp,z2.rc,z2.gp,z2.gc,z2.cp,z2.cc⟩:KU)) hzo2 f21 f22 f23 f24 f25 Tg zg)) ?_;rintro _ _ ⟨rfl,rfl⟩;rw [decide_eq_false ck3];refine Ai (D':=1180591620717411303423) 69 Y rfl rfl rfl (CV Y) ?_;refine Zi 2361183241434822606847 70 rfl (AL Y Y)<|Zi 4722366482869645213695 71 rfl (AJ Y) ?_;refine CW (t:=120) Y (fun k12=>?_) (fun k12=>?_)
            ·
             first|rw [decide_eq_true k12]|rw [k12]|skip
             refine Ai (D':=9444732965739290427391) 72 Y rfl rfl rfl (AJ Y) ?_;refine Ai (D':=18889465931478580854783) 73 Y rfl rfl rfl (AZ (j:=2) underlying60 sizeOf67 Y Y (by omega)) ?_;refine Bl (D':=37778931862957161709567) 74 Y rfl rfl rfl Wh (Ab (cs:=#[I4 h2.p,.string (str h2.ch),.string (str h2.st)]) isAgg67 sizeOf67 Y (hw2).1 (hw2).2) ?_;refine Ai (D':=75557863725914323419135) 75 Y rfl rfl rfl (AJ Y) ?_;refine Ai (D':=151115727451828646838271) 76 Y rfl rfl rfl (AZ (j:=3) underlying60 sizeOf67 Y Y (by omega)) ?_;refine Bl (D':=302231454903657293676543) 77 Y rfl rfl rfl Wh (Ab (cs:=#[I4 h3.p,.string (str h3.ch),.string (str h3.st)]) isAgg67 sizeOf67 Y (hw3).1 (hw3).2) ?_;refine Bl (D':=604462909807314587353087) 78 Y rfl rfl rfl Wh (Ab (cs:=#[_,_,_,_,_,_,_,_,_,_,_,_,_,_,_]) isAgg53 sizeOf53 Y (by exact tO _) (by exact BA rfl)) ?_;refine Yw 79 1208925819614629174706175 rfl (Zu [_,_,_] Y call26 Y rfl (NV h2 h3 hzo2 f21 f22 f23 f24 f25 Tg zg)) ?_;rintro _ _ ⟨rfl,rfl⟩;rw [decide_eq_false ck4];refine Ai (D':=2417851639229258349412351) 80 Y rfl rfl rfl (CV Y) ?_;refine Zi 4835703278458516698824703 81 rfl (AL Y Y)<|Zi 9671406556917033397649407 82 rfl (AJ Y) ?_;refine CW (t:=131) Y (fun k13=>?_) (fun k13=>?_)
             ·
              first|rw [decide_eq_true k13]|rw [k13]|skip
              refine Bl (D':=19342813113834066795298815) 83 Y rfl rfl rfl Wh (Ab (cs:=#[_,_,_,_,_,_,_,_,_,_,_,_,_,_,_]) isAgg53 sizeOf53 Y (by exact tO _) (by exact BA rfl)) ?_;refine Bl (D':=38685626227668133590597631) 84 Y rfl rfl rfl Wh (Ab (cs:=#[_,_,_,_,_,_,_,_,_,_,_,_,_,_,_]) isAgg53 sizeOf53 Y (by exact tO _) (by exact BA rfl)) ?_;refine Yw 85 77371252455336267181195263 rfl (Zu [_,_] Y call28 Y rfl (mP hzo1 hzo1)) ?_;rintro _ _ ⟨rfl,rfl⟩;rw [decide_eq_true sm1];refine Zi 154742504910672534362390527 86 rfl (AL Y Y)<|Zi 309485009821345068724781055 87 rfl (AJ Y) ?_;refine CW (t:=136) Y (fun k14=>?_) (fun k14=>?_)
              ·
               first|rw [decide_eq_true k14]|rw [k14]|skip
               refine Bl (D':=618970019642690137449562111) 88 Y rfl rfl rfl Wh (Ab (cs:=#[_,_,_,_,_,_,_,_,_,_,_,_,_,_,_]) isAgg53 sizeOf53 Y (by exact tO _) (by exact BA rfl)) ?_;refine Bl (D':=1237940039285380274899124223) 89 Y rfl rfl rfl Wh (Ab (cs:=#[_,_,_,_,_,_,_,_,_,_,_,_,_,_,_]) isAgg53 sizeOf53 Y (by exact tO _) (by exact BA rfl)) ?_;refine Yw 90 2475880078570760549798248447 rfl (Zu [_,_] Y call28 Y rfl (mO hzo1 hzo2)) ?_;rintro _ _ ⟨rfl,rfl⟩;rw [decide_eq_false sm2];refine Ai (D':=4951760157141521099596496895) 91 Y rfl rfl rfl (CV Y) ?_;refine Zi 9903520314283042199192993791 92 rfl (AL Y Y)<|Zi 19807040628566084398385987583 93 rfl (AJ Y) ?_;refine CW (t:=142) Y (fun k15=>?_) (fun k15=>?_)
               ·
                first|rw [decide_eq_true k15]|rw [k15]|skip
                refine Ai (D':=39614081257132168796771975167) 94 Y rfl rfl rfl (AJ Y) ?_;refine Ai (D':=79228162514264337593543950335) 95 Y rfl rfl rfl (Bi (n:=50) Y Y) ?_;refine Zi 158456325028528675187087900671 96 rfl (AL Y Y)<|Zi 316912650057057350374175801343 97 rfl (Aw Y)<|Am ?_;refine Zn [0] ?_;refine Zx<|A9 ?_;refine AC rfl results11 Y (by exact ⟨rfl,rfl⟩)
               first|rw [decide_eq_false k15]|rw [k15]|skip
               cases k15
              first|rw [decide_eq_false k14]|rw [k14]|skip
              cases k14
             first|rw [decide_eq_false k13]|rw [k13]|skip
             cases k13
            first|rw [decide_eq_false k12]|rw [k12]|skip
            cases k12
           first|rw [decide_eq_false k11]|rw [k11]|skip
           cases k11
          first|rw [decide_eq_false k10]|rw [k10]|skip
          cases k10
         first|rw [decide_eq_false k9]|rw [k9]|skip
         exact absurd hu2 k9
        first|rw [decide_eq_false k8]|rw [k8]|skip
        exact absurd hs2 k8
       first|rw [decide_eq_false k7]|rw [k7]|skip
       exact absurd hv2 k7
      first|rw [decide_eq_false k6]|rw [k6]|skip
      exact absurd hu1 k6
     first|rw [decide_eq_false k5]|rw [k5]|skip
     exact absurd hs1 k5
    first|rw [decide_eq_false k4]|rw [k4]|skip
    exact absurd hv1 k4
   first|rw [decide_eq_false k3]|rw [k3]|skip
   cases k3
  first|rw [decide_eq_false k2]|rw [k2]|skip
  cases k2
 first|rw [decide_eq_false k1]|rw [k1]|skip
 cases k1
end Go.Proofs.YtkdgffcfmgmemaaGreatDoor
