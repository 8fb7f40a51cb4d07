/- log, positions, built. -/
/- What is built on a log, in plain words; the example of chapter 11. -/
/- The example of chapter 11; sane. -/
/- Sane. -/
import Derived.Test.YtkdgffcfmgmemaaGreatDoorEz
import Derived.Test.YtkdgffcfmgmemaaGreatDoorPy9
import Derived.Test.YtkdgffcfmgmemaaGreatDoorPf2
set_option linter.unusedVariables false
set_option linter.unusedSimpArgs false
namespace Go.Proofs.YtkdgffcfmgmemaaGreatDoor
open Go.Proofs.Tryz
open Go Go.RowKit Gw
set_option maxRecDepth 100000
attribute [local irreducible] Gw.At Gw.Nx Gw.Ops
theorem ql{M:List AR}{v:Value}{xs:List (List Int)}(hX:Ni M v xs):CO Tryz.prog 44 #[v] [M] (fun r H'=>∃(l:List Br) (s:List AR),DW l∧l.length≤20∧Du s r l∧H'=[s,M]):=by
 have hml:=mL;obtain ⟨py,capy,rfl,hyl,hgy⟩:=id hX;have hX2:=gX hX (min xs.length 20) (Nat.min_le_left _ _)
 have hyk:(xs.take (min xs.length 20)).length≤20:=by rw [tL];omega
 refine Se func44 ntmps44 [0] ?_;intro u R;refine Zq<|Zg<|Za Y<|Z0<|Zx<|Zq<|Zg<|Zm Y<|Zm Y<|Zv (AV underlying22 Y)<|Zv (Lb (n:=20) Y Y) ?_;refine BM (Bc underlying22 sizeOf217 Y Y (by first|omega|(simp;omega))) ?_;refine Zc [_] Y call105 Y rfl (ou hX2 (by omega)) ?_;rintro _ _ ⟨_,⟨l,sl,hlog,hll,hRI,rfl⟩,rfl⟩;refine Za Y<|Z0<|Zx<|A9 ?_;refine AB rfl results44 Y (by exact ⟨l,sl,hlog,by omega,hRI,rfl⟩)
set_option maxHeartbeats 1000000 in
theorem Vj{M:List AR}{v:Value}{xs:List (List Int)}(hX:Ni M v xs)(q0 q1 q2 q3 q4 cb cu:Int)(hq01:-9223372036854775808≤q0)(hq02:q0≤9223372036854775807)(hq11:-9223372036854775808≤q1)(hq12:q1≤9223372036854775807)(hq21:-9223372036854775808≤q2)(hq22:q2≤9223372036854775807)(hq31:-9223372036854775808≤q3)(hq32:q3≤9223372036854775807)(hq41:-9223372036854775808≤q4)(hq42:q4≤9223372036854775807)(hcb1:-9223372036854775808≤cb)(hcb2:cb≤9223372036854775807)(hcu1:-9223372036854775808≤cu)(hcu2:cu≤9223372036854775807)(tw:Value):CO Tryz.prog 12 #[.agg #[v,I4 q0,I4 q1,I4 q2,I4 q3,I4 q4,I4 cb,I4 cu,tw]] [M] (fun r H'=>∃(l:List Br) (p:Option Addr) (cap:Nat) (s:List AR) (q:QM) (a b:Nat),DW l∧l.length≤20∧Du s (.slice p l.length cap) l∧BP q∧a≤b∧b≤l.length∧r= .tuple #[.slice p l.length cap,.agg #[I4 q.kd,I4 q.tb,I4 q.cl,I4 q.lo,I4 q.hi,I4 q.bq,I4 q.ot],I4 (a:Int),I4 (b:Int)]∧H'=[s,M]):=by
 have hml:=mL;obtain ⟨py,capy,rfl,hyl,hgy⟩:=id hX;refine Se func12 ntmps12 [0] ?_;intro u R;refine Zq<|Zg<|Ze (Bx #[.slice py xs.length capy,I4 q0,I4 q1,I4 q2,I4 q3,I4 q4,I4 cb,I4 cu,tw]) ?_;rintro _ _ ⟨bc,rfl,rfl⟩;refine Za Y<|Ze (Al zeroValue30 #[_,_,_,_,_,_,_]) ?_;rintro _ _ ⟨bq,rfl,rfl⟩;refine Za Y<|Za Y<|Z0<|Zx<|Zq<|Zg<|Zh 0 underlying26 rfl rfl sizeOf22 Y<|Zl isAgg22 Y ?_;refine Zc [_] Y call44 Y rfl (ql hX) ?_;rintro _ _ ⟨_,⟨l,sl,hlog,hll,hRI,rfl⟩,rfl⟩;obtain ⟨pl,cl,rfl,hl1,hl2⟩:=id hRI;refine Za Y<|Z0<|Zx<|Zq<|Zg<|Zh 6 underlying26 rfl rfl sizeOf3 Y<|Zl isAgg3 Y ?_;refine Zm Y<|Zv (AV underlying28 Y)<|Ya (n:=1) Y Y<|Xr [_,_] Y call32 Y rfl (Xl cb (l.length+1) (by omega) (by omega) hcb1 hcb2) ?_;obtain ⟨a,ha⟩:∃a,a=C9 cb (l.length+1):=⟨_,rfl⟩;rw [←ha];have hal:=Ez cb (l.length+1) (by omega)
 rw [←ha]at hal;refine Za Y<|Z0<|Zn [1,3,6,7] ?_;refine Zx<|Zq<|BI (n:=19) (0::0::2::6::0::0::0::64::0::256::0::1792::3840::8142::16366::16335::49103::114655::262143::[]) 73736 (by kernel_rfl) (by kernel_rfl) rfl ?_;refine Zi 1 0 rfl (AJ Y)<|Zi 3 1 rfl (AZ (off:=1) underlying26 rfl rfl sizeOf23 Y)<|Cj (D':=7) 2 rfl rfl rfl Wh (Pa #[_,_,_,_,_] isAgg23 sizeOf23 Y) ?_;refine Zi 23 4 rfl (AJ Y)<|Zi 55 5 rfl (AJ Y)<|Zi 119 6 rfl (AZ (off:=7) underlying26 rfl rfl sizeOf3 Y)<|Zj 247 7 rfl isAgg3 Y ?_;refine Zi 503 8 rfl (AJ Y)<|Zi 1015 9 rfl (AV underlying28 Y)<|Zi 2039 10 rfl (AJ Y) ?_
 (refine EF (D':=4087) 11 (Bg Y Y ?_ ?_) ?_;(focus (omega));(focus (omega)))
 refine Zi 8183 12 rfl (D6 (n:=1) Y Y (by omega)) ?_;refine Zz (l:=[3]) ?_;refine Zy 6 8191 [7,2] [true,false] [(7,(_,_))] rfl Y rfl rfl rfl rfl (Zw [_] Y call45 Y rfl (ow q0 q1 q2 q3 q4 hq01 hq02 hq11 hq12 hq21 hq22 hq31 hq32 hq41 hq42)) ?hk_1 D9 ?hl_1
 case hk_1=>
  rintro _ _ ⟨_,⟨q,hq,rfl,rfl⟩,rfl⟩;refine ⟨Zk (Ad),?_⟩;refine Yw 13 16383 rfl (Zu [_,_] Y call32 Y rfl (Xl cu (l.length -a+1) (by omega) (by omega) hcu1 hcu2)) ?_;rintro _ _ ⟨rfl,rfl⟩;obtain ⟨d,hd⟩:∃d,d=C9 cu (l.length -a+1):=⟨_,rfl⟩;rw [←hd];have hdl:=Ez cu (l.length -a+1) (by omega)
  rw [←hd]at hdl;refine Zi 32767 14 rfl (D6 Y Y (by omega)) ?_;refine Zi 65535 15 rfl (Ay Y)<|Zz (l:=[16]) ?_;refine Zy 49103 131071 [] [] [] rfl Y rfl rfl rfl rfl (BN sizeOf30 Y Y (by(simp [Value.oneCell'];done)) Wu (by exact DU rfl) (by first|rfl|(simp;done)) Wb (by exact BQ _)) ?hk_3 (fun _ _ h=>h.elim) ?hl_3
  case hk_3=>
   rintro _ _ ⟨rfl,rfl⟩;refine ⟨Ad,?_⟩;refine Zi 262143 17 rfl (Ay Y)<|Zi 524287 18 rfl (Ay Y)<|Am ?_;refine Zn [2,3,4,5] ?_;refine Zx<|A9 ?_;refine Y5 rfl results12 Y Y Wh (Ah isAgg30 sizeOf30 Wn (Au rfl)) Y Y (by exact ⟨l,pl,cl,sl,q,a,a+d,hlog,hll,hRI,hq,by omega,by omega,rfl,rfl⟩)
  exact Aw
 exact Aw
set_option maxHeartbeats 2000000 in
theorem fF{M:List AR}{p:Option Addr}{cap:Nat}{l:List Br}(hRI:Du M (.slice p l.length cap) l)(hlog:DW l)(hll:l.length≤20)(a b:Nat)(hab:a≤b)(hb:b≤l.length)(q:QM)(hq:BP q)(Tg:TypeId)(zg:Nat×Nat):CO Tryz.prog 29 #[.slice p l.length cap,I4 (a:Int),I4 (b:Int),.agg #[I4 q.kd,I4 q.tb,I4 q.cl,I4 q.lo,I4 q.hi,I4 q.bq,I4 q.ot]] [[(1,.cells (Cs.map Bj).toArray Tg zg)],M] (fun w H'=>∃(z:GG) (s mem:List AR) (t:Bool) (pg:Option Addr) (cg:Nat),((t=true∧EC l a b q=some z.a∧z.ok (s++mem++M))∨(t=false∧EC l a b q=none))∧Gs mem (.slice pg (Ec (Bh (l.take a)) q).length cg) (Ec (Bh (l.take a)) q)∧w= .tuple #[.agg #[I4 q.kd,I4 q.tb,I4 q.cl,I4 q.lo,I4 q.hi,I4 q.bq,I4 q.ot,I4 0,I4 (a:Int),.slice pg (Ec (Bh (l.take a)) q).length cg],.agg #[I4 z.a.q.kd,I4 z.a.q.tb,I4 z.a.q.cl,I4 z.a.q.lo,I4 z.a.q.hi,I4 z.a.q.bq,I4 z.a.q.ot,.slice z.rp z.a.res.rows.length z.rc,I4 z.a.res.val,.bool z.a.res.fnd,I4 z.a.since,I4 z.a.until_,I4 z.a.base,.slice z.gp z.a.ranges.length z.gc,.slice z.cp z.a.recs.length z.cc],.bool t]∧H'=[s,mem,[(1,.cells (Cs.map Bj).toArray Tg zg)],M]):=by
 have hml:=mL;obtain ⟨p9,cap9,e9,⟨hl1,hl2⟩,_⟩:=id hRI;injection e9 with e91 e92 e93
 subst e91 e93;obtain ⟨hs,hn⟩:=hlog.rows a (by omega);have hok:=hlog.rowsOk a (by omega)
 have hscan:=GK hlog hll (by omega:a≤l.length) q;have hst:=Fh hs hn hok hq hscan
 have hmk:=Le (Bh (l.take a)) q;obtain ⟨L,hL⟩:∃L,L=Ec (Bh (l.take a)) q:=⟨_,rfl⟩;have hbt:EC l a b q=Ev q (a:Int) L (F3 l a b):=by unfold EC;rw [←hL]
 rw [←hL]at hst hmk⊢;refine Se func29 ntmps29 [0,1,2,3] ?_;intro u R;refine Zq<|Zg<|Ze (Bx #[I4 q.kd,I4 q.tb,I4 q.cl,I4 q.lo,I4 q.hi,I4 q.bq,I4 q.ot]) ?_;rintro _ _ ⟨bq,rfl,rfl⟩;refine Ze (Al zeroValue57 #[_,_,_,_,_,_,_,_,_,_]) ?_;rintro _ _ ⟨be,rfl,rfl⟩;refine Ze (Al zeroValue53 #[_,_,_,_,_,_,_,_,_,_,_,_,_,_,_]) ?_;rintro _ _ ⟨ba,rfl,rfl⟩;refine Za Y<|Z0<|Zx<|Zq<|Zg<|Zm Y<|Zm Y<|Zc [_,_] Y call13 Y rfl (rZ hRI hlog (by omega) a (by omega)) ?_;rintro _ _ ⟨_,⟨vs,ss,rfl,hS,rfl⟩,rfl⟩;refine Zm Y<|Zd Y rfl<|Zd Y rfl<|Za Y<|Za Y<|Z0<|Zx<|Zq<|Zq<|Zg<|Zm Y<|Zv (Dw (n:=0) Y Y)<|Z0<|Zn [0,1,2,7,8,9,11,25] ?_;refine Zx ?_;refine Ao Y (fun hb0=>?_) (fun hb0=>?_)
 ·
  exact absurd rfl hb0
 refine AC<|Zx<|Zq<|Zg<|Zm Y<|Zo Wh (AX (cs:=#[_,_,_,_,_,_,_]) isAgg30 sizeOf30 Y Wb (by exact Au rfl)) ?_;refine Zc [_,_] Y call15 Y rfl (pJ _ _ _ _ hS hs hn hok q hq hscan Tg zg) ?_;rintro _ _ ⟨_,⟨vo,mem,rfl,hRP,rfl⟩,rfl⟩;rw [←hL]at hRP;obtain ⟨pg,cg,rfl,hg1,hg2⟩:=hRP.form;refine Zm Y<|Zd Y rfl<|Zd Y rfl<|Za Y<|Za Y<|Z0<|Zx<|Zq<|Zg<|Zo Wh (AX (cs:=#[_,_,_,_,_,_,_]) isAgg30 sizeOf30 Y Wb (by exact Au rfl)) ?_;refine Zm Y<|Zm Y<|Zv (BK (vs:=[(0,.agg #[I4 q.kd,I4 q.tb,I4 q.cl,I4 q.lo,I4 q.hi,I4 q.bq,I4 q.ot]),(2,I4 (a:Int)),(3,.slice pg L.length cg)]) (cs:=#[I4 q.kd,I4 q.tb,I4 q.cl,I4 q.lo,I4 q.hi,I4 q.bq,I4 q.ot,I4 0,I4 (a:Int),.slice pg L.length cg]) Y (Aa (pl:=#[(0,7),(7,1),(8,1),(9,1)]) zeroValue57 underlying57 (fun _=>by kernel_rfl) (by kernel_rfl))) ?_;refine Ze (Al zeroValue57 #[_,_,_,_,_,_,_,_,_,_]) ?_;rintro _ _ ⟨bx,rfl,rfl⟩;refine Xe (Xw sizeOf57 #[I4 q.kd,I4 q.tb,I4 q.cl,I4 q.lo,I4 q.hi,I4 q.bq,I4 q.ot,I4 0,I4 (a:Int),.slice pg L.length cg]) ?_;refine Z0<|Zn [0,1,2,8,9,14,15] ?_;refine Zx<|Zb [0,1,2,8,9,14,15] ?_;refine CW (e0:=[(0,_),(1,_),(2,_)]) (H0:=[mem,M]) (fun e H=>∃(z:GG) (s:List AR) (t:Bool) (bz:Nat),((t=true∧Ev q (a:Int) L (F3 l a b)=some z.a∧z.ok (s++mem++M))∨(t=false∧Ev q (a:Int) L (F3 l a b)=none))∧e=[(16,I5 bz),(17,.bool t)]∧H=[[(bz,.cells #[I4 z.a.q.kd,I4 z.a.q.tb,I4 z.a.q.cl,I4 z.a.q.lo,I4 z.a.q.hi,I4 z.a.q.bq,I4 z.a.q.ot,.slice z.rp z.a.res.rows.length z.rc,I4 z.a.res.val,.bool z.a.res.fnd,I4 z.a.since,I4 z.a.until_,I4 z.a.base,.slice z.gp z.a.ranges.length z.gc,.slice z.cp z.a.recs.length z.cc] 53 (0,0))],s,mem,M]) Wp ?hx_1 ?hy_1
 case hx_1=>
  refine BI (n:=12) (0::0::0::0::14::31::63::127::127::0::767::2047::[]) 1568 (by kernel_rfl) (by kernel_rfl) rfl ?_;refine Cj (D':=1) 0 rfl rfl rfl Wh (AX (cs:=#[I4 q.kd,I4 q.tb,I4 q.cl,I4 q.lo,I4 q.hi,I4 q.bq,I4 q.ot,I4 0,I4 (a:Int),.slice pg L.length cg]) isAgg57 sizeOf57 Y (by exact tQ _) (by exact Au rfl)) ?_;refine Zi 3 1 rfl (AJ Y)<|Zi 7 2 rfl (AJ Y)<|Zi 15 3 rfl (AJ Y) ?_
  (refine EF (D':=31) 4 (Lx underlying28 sizeOf73 Y Y Y ?_ ?_) ?_;(focus (omega));(focus (omega)))
  refine Zz (l:=[5,9]) ?_;refine Zy 31 63 [0] [false] [] rfl Y rfl rfl rfl rfl (Zw [_,_] Y call18 Y rfl (Nb q 0 (a:Int) (by omega) (hRP.mono (fun c hc=>u6 M hc)) (by omega) hst (G7 (NA hRI hab hb) (fun c hc=>tZ mem hc)) (Km hlog a b))) ?hk_2 D9 ?hl_2
  case hk_2=>
   rintro _ _ ⟨_,⟨z,s,t,hz,rfl,rfl⟩,rfl⟩;refine ⟨Ad,?_⟩;refine Zi 127 6 rfl (AJ Y)<|Zi 255 7 rfl (Cc Y rfl)<|Zi 511 8 rfl (Cc Y rfl)<|Zz (l:=[9]) ?_;refine Zy 0 1023 [] [] [] rfl Y rfl rfl rfl rfl (Al zeroValue53 #[_,_,_,_,_,_,_,_,_,_,_,_,_,_,_]) ?hk_3 (fun _ _ h=>h.elim) ?hl_3
   case hk_3=>
    rintro _ _ ⟨bz,rfl,rfl⟩;refine ⟨Ad,?_⟩;refine Yw 10 2047 rfl (Xw sizeOf53 #[I4 z.a.q.kd,I4 z.a.q.tb,I4 z.a.q.cl,I4 z.a.q.lo,I4 z.a.q.hi,I4 z.a.q.bq,I4 z.a.q.ot,.slice z.rp z.a.res.rows.length z.rc,I4 z.a.res.val,.bool z.a.res.fnd,I4 z.a.since,I4 z.a.until_,I4 z.a.base,.slice z.gp z.a.ranges.length z.gc,.slice z.cp z.a.recs.length z.cc]) ?_;rintro _ _ ⟨rfl,rfl⟩;refine Zi 4095 11 rfl (Ay Y)<|Am ?_;refine Zn [16,17,8,9,14,15] ?_;refine BB (e':=[(16,_),(17,_)]) (by exact ⟨z,s,t,bz,hz,rfl,rfl⟩)
   exact Aw
  refine Zy 0 543 [0] [true] [(0,(_,_))] rfl Y rfl rfl rfl rfl (Al zeroValue53 #[_,_,_,_,_,_,_,_,_,_,_,_,_,_,_]) ?hk_6 (fun _ _ h=>h.elim) ?hl_6
  case hk_6=>
   rintro _ _ ⟨bz,rfl,rfl⟩;refine ⟨Zk (Ad),?_⟩;refine Zz (l:=[5]) ?_;refine Zy 31 575 [0] [false] [] rfl Y rfl rfl rfl rfl (Zw [_,_] Y call18 Y rfl (Nb q 0 (a:Int) (by omega) (hRP.mono (fun c hc=>u6 M hc)) (by omega) hst (G7 (NA hRI hab hb) (fun c hc=>tZ mem hc)) (Km hlog a b))) ?hk_7 D9 ?hl_7
   case hk_7=>
    rintro _ _ ⟨_,⟨z,s,t,hz,rfl,rfl⟩,rfl⟩;refine ⟨Ad,?_⟩;refine Zi 639 6 rfl (AJ Y)<|Zi 767 7 rfl (Cc Y rfl)<|Zi 1023 8 rfl (Cc Y rfl)<|Zz (l:=[10]) ?_;refine Zy 767 2047 [] [] [] rfl Y rfl rfl rfl rfl (Xw sizeOf53 #[I4 z.a.q.kd,I4 z.a.q.tb,I4 z.a.q.cl,I4 z.a.q.lo,I4 z.a.q.hi,I4 z.a.q.bq,I4 z.a.q.ot,.slice z.rp z.a.res.rows.length z.rc,I4 z.a.res.val,.bool z.a.res.fnd,I4 z.a.since,I4 z.a.until_,I4 z.a.base,.slice z.gp z.a.ranges.length z.gc,.slice z.cp z.a.recs.length z.cc]) ?hk_8 (fun _ _ h=>h.elim) ?hl_8
    case hk_8=>
     rintro _ _ ⟨rfl,rfl⟩;refine ⟨Ad,?_⟩;refine Zi 4095 11 rfl (Ay Y)<|Am ?_;refine Zn [16,17,8,9,14,15] ?_;refine BB (e':=[(16,_),(17,_)]) (by exact ⟨z,s,t,bz,hz,rfl,rfl⟩)
    exact Aw
   exact Aw
  exact Aw
 rintro _ _ ⟨z,s,t,bz,hz,rfl,rfl⟩;refine Zq<|BI (n:=10) (0::0::0::4::12::28::60::29::159::511::[]) 384 (by kernel_rfl) (by kernel_rfl) rfl ?_;refine Cj (D':=1) 0 rfl rfl rfl Wh (AX (cs:=#[_,_,_,_,_,_,_,_,_,_]) isAgg57 sizeOf57 Y Wb (by exact Au rfl)) ?_;refine Cj (D':=3) 1 rfl rfl rfl Wh (AX (cs:=#[_,_,_,_,_,_,_,_,_,_,_,_,_,_,_]) isAgg53 sizeOf53 Y Wb (by exact Au rfl)) ?_;refine Zi 7 2 rfl (AJ Y)<|Zi 15 3 rfl (C8 (n:=0) Y Y)<|Zi 31 4 rfl (AJ Y) ?_;refine CS (t:=51) Y (fun hb2=>?_) (fun hb2=>?_)
 ·
  first|rw [decide_eq_true hb2]|rw [hb2]|skip
  refine Ag (D':=63) 5 Y rfl rfl rfl (AJ Y) ?_;refine Zi 127 6 rfl (AL Y Y)<|Zz (l:=[7]) ?_;refine Zy 29 255 [1,0] [true,false] [(1,(_,_))] rfl Y rfl rfl rfl rfl (BN sizeOf57 Y Y (by(simp [Value.oneCell'];done)) Wu (by exact DU rfl) (by first|rfl|(simp;done)) Wb (by exact BQ _)) ?hk_10 (fun _ _ h=>h.elim) ?hl_10
  case hk_10=>
   rintro _ _ ⟨rfl,rfl⟩;refine ⟨Zk (Ad),?_⟩;refine Yw 8 511 rfl (BN sizeOf53 Y Y (by(simp [Value.oneCell'];done)) Wu (by exact DU rfl) (by first|rfl|(simp;done)) Wb (by exact BQ _)) ?_;rintro _ _ ⟨rfl,rfl⟩;refine Zi 1023 9 rfl (Ay Y)<|Am ?_;refine Zx<|A9 ?_;refine dF rfl results29 Y Y Y Wh Wh (Ah isAgg57 sizeOf57 Wn (Au rfl)) (Ah isAgg53 sizeOf53 Wn (Au rfl)) (by exact ⟨z,s,mem,t,pg,cg,by rw [hbt];exact hz,hRP,rfl,rfl⟩)
  exact Aw
 first|rw [decide_eq_false hb2]|rw [hb2]|skip
 exact absurd rfl hb2
theorem Um{M:List AR}{p:Option Addr}{cap:Nat}{l:List Br}(hRI:Du M (.slice p l.length cap) l)(hlog:DW l)(hll:l.length≤20)(a b:Nat)(hab:a≤b)(hb:b≤l.length)(q:QM)(hq:BP q)(Tg:TypeId)(zg:Nat×Nat):CO Tryz.prog 29 #[.slice p l.length cap,I4 (a:Int),I4 (b:Int),.agg #[I4 q.kd,I4 q.tb,I4 q.cl,I4 q.lo,I4 q.hi,I4 q.bq,I4 q.ot]] [[(1,.cells (Cs.map Bj).toArray Tg zg)],M] (fun w H'=>∃(z:GG) (E:List AR) (t:Bool) (pg:Option Addr) (cg:Nat),((t=true∧EC l a b q=some z.a∧z.ok (E++M))∨(t=false∧EC l a b q=none))∧Gs (E++M) (.slice pg (Ec (Bh (l.take a)) q).length cg) (Ec (Bh (l.take a)) q)∧w= .tuple #[.agg #[I4 q.kd,I4 q.tb,I4 q.cl,I4 q.lo,I4 q.hi,I4 q.bq,I4 q.ot,I4 0,I4 (a:Int),.slice pg (Ec (Bh (l.take a)) q).length cg],.agg #[I4 z.a.q.kd,I4 z.a.q.tb,I4 z.a.q.cl,I4 z.a.q.lo,I4 z.a.q.hi,I4 z.a.q.bq,I4 z.a.q.ot,.slice z.rp z.a.res.rows.length z.rc,I4 z.a.res.val,.bool z.a.res.fnd,I4 z.a.since,I4 z.a.until_,I4 z.a.base,.slice z.gp z.a.ranges.length z.gc,.slice z.cp z.a.recs.length z.cc],.bool t]∧H'=[E,[(1,.cells (Cs.map Bj).toArray Tg zg)],M]):=by
 refine EB (fF hRI hlog hll a b hab hb q hq Tg zg) rfl ?_;rintro w H' ⟨z,s,mem,t,pg,cg,h1,h2,rfl,rfl⟩;exact ⟨_,⟨z,s++mem,t,pg,cg,h1,h2.mono (fun c hc=>u6 _ (tZ _ hc)),rfl,rfl⟩,by simp⟩
theorem bB{q:QM}{l:List Br}{a b:Nat}{st st2:CG×Int}(h:Gh q (a:Int) 0 st (F3 l a b)=some st2):Gh q (a:Int) 0 st ((l.drop a).take (b -a))=some st2:=h
theorem Gr{l:List Br}(hl:DW l)(h20:l.length≤20){a b:Nat}(hab:a≤b)(hb:b≤l.length){q:QM}(hq:BP q){x:Lp}(h:EC l a b q=some x):x=⟨q,Df (Bh (l.take b)) q,x.since,(b:Int),(a:Int),Ec (Bh (l.take a)) q,F3 l a b⟩∧l5 q l a (b -a) x.since:=by
 obtain ⟨hs,hn⟩:=hl.rows a (by omega);have hst:=Fh hs hn (hl.rowsOk a (by omega)) hq (GK hl h20 (by omega) q)
 have hpl:=TB (l:=l) (a:=a) hb;unfold EC at h;rw [Jv hst (by omega)]at h;cases hr:Gh q (a:Int) 0 (Df (Bh (l.take a)) q,(a:Int)) (F3 l a b)with
 |none=>rw [hr]at h;cases h
 |some st=>
  rw [hr]at h;injection h with h
  obtain ⟨e1,e2⟩:=SV hq hl (by omega:a≤l.length) (b -a) (by omega) st (bB hr);rw [show a+(b -a)=b by omega]at e1;subst h;refine ⟨?_,e2⟩;simp only [hpl,e1];congr 1;omega
theorem mY{l:List Br}(hl:DW l){a b:Nat}(hb:b≤l.length)(hll:l.length≤20):∀(k:Nat) (x:Br),(F3 l a b)[k]?=some x→(a:Int)≤9223372036854775806 -((0+k:Nat):Int)∧x.p=(a:Int)+1+((0+k:Nat):Int):=fun k x hk=>by
 obtain ⟨h1,h2⟩:=Vo hk;have h3:x.p=((a+k:Nat):Int)+1:=(hl _ x h1).1.pos
 have h4:=(tH.1 h1).1;exact ⟨by omega,by rw [h3];push_cast;omega⟩
theorem P8{l:List Br}(hl:DW l)(h20:l.length≤20){a b:Nat}(hab:a≤b)(hb:b≤l.length){q:QM}(hq:BP q)(hk:1≤q.kd∧q.kd≤4):EC l a b q≠none:=by
 obtain ⟨hs,hn⟩:=hl.rows a (by omega);have hst:=Fh hs hn (hl.rowsOk a (by omega)) hq (GK hl h20 (by omega) q)
 have hpl:=TB (l:=l) (a:=a) hb;obtain ⟨st,hst2⟩:=Q3 hk (F3 l a b) 0 (Df (Bh (l.take a)) q,(a:Int)) (mY hl hb h20);unfold EC;rw [Jv hst (by omega),hst2];exact fun h=>by cases h
theorem W9{rs:List AP}(hs:BJ rs)(hn:rs.length≤2000)(q:QM):∀x∈Ec rs q,x.small:=fun x hx=>by
 unfold Ec at hx;rcases uI.1 hx with rfl|hx
 · exact ⟨Ol hs hn _ _ _ _,Om hs hn _ _ _ _⟩
 · split at hx
   · obtain ⟨r,_,rfl⟩:=uh.1 hx
     exact ⟨Ol hs hn _ _ _ _,Om hs hn _ _ _ _⟩
   · cases hx
theorem dL{rs:List AP}(hs:BJ rs)(hn:rs.length≤2000)(hok:∀r∈rs,r.ok){q:QM}(hq:BP q):∀x∈Ec rs q,Nh (DZ rs) x:=fun x hx=>by
 have h1:=hq.1;have h2:=hq.2.1
 have h3:=hq.2.2.1.2.1;have h4:0≤q.ot∧q.ot≤3:=by have:=hq.2.2.2;omega
 unfold Ec at hx;rcases uI.1 hx with rfl|hx
 · exact SE hs hn hok _ _ (by omega) (by omega) _ _ h3
 · split at hx
   · obtain ⟨r,_,rfl⟩:=uh.1 hx
     exact SE hs hn hok _ _ (by omega) (by omega) _ _ (zX _)
   · cases hx
theorem Pe{l:List Br}(hl:DW l)(h9:l.length≤9000){st:Bs}(hst:st.length=32){a:Nat}:∀k,a+k≤l.length→∃h,II st (EG l a) ((l.drop a).take k)=some h∧h.p=((a+k:Nat):Int)∧h.ch=(EG l (a+k)).ch∧h.ok∧(k=0→h=EG l a)∧(0<k→h.st=st)
 |0,hk=>by
  obtain ⟨h1,h2,_⟩:=J2 hl h9 a (by omega);exact ⟨EG l a,by rw [ut];rfl,h2,rfl,h1,fun _=>rfl,fun h=>by omega⟩
 |k+1,hk=>by
  obtain ⟨h,e1,e2,e3,e4,_,_⟩:=Pe hl h9 hst (a:=a) k (by omega);obtain ⟨r,hr⟩:∃r,l[a+k]?=some r:=⟨_,tF (by omega)⟩;have hr2:(l.drop a)[k]?=some r:=by rw [uw];exact hr
  obtain ⟨ha,_⟩:=hl _ r hr;have hp:r.p=((a+k:Nat):Int)+1:=ha.pos
  have hnx:FN h r st:=⟨ha.ok,e4,hst,by rw [e2];exact hp⟩;refine ⟨GD h r st,by rw [MB e1 hr2,if_pos hnx],by show r.p=_;rw [hp];rfl,?_,⟨⟨by show 0≤r.p;omega,by show r.p≤10000;omega⟩,Ow _ _,hst⟩,fun h=>by omega,fun _=>rfl⟩;show Me h.ch _=_
  rw [e3,show a+(k+1)=a+k+1 by omega,KF hr];rfl
theorem WW{l:List Br}(hl:DW l)(h9:l.length≤9000){a b:Nat}(hab:a≤b)(hb:b≤l.length):J6 (EG l a) (F3 l a b) (EG l b):=by
 obtain ⟨h1,_,_⟩:=J2 hl h9 a (by omega);obtain ⟨h2,h3,h4⟩:=J2 hl h9 b hb;obtain ⟨h,e1,e2,e3,e4,e5,e6⟩:=Pe hl h9 h2.2.2 (a:=a) (b -a) (by omega);refine ⟨h1,h2,?_⟩;unfold F3;rw [e1];rcases vJ (b -a)with h0|h0
 · rw [e5 h0,show a=b by omega]
 · rw [show a+(b -a)=b by omega]at e2 e3
   exact congrArg some (aG.2 ⟨by rw [e2,h3],e3,e6 h0⟩)
theorem WX{l:List Br}(hl:DW l)(h9:l.length≤9000){a b:Nat}(hab:a≤b)(hb:b≤l.length){u:Cm}(h:J6 (EG l a) (F3 l a b) u):u.p=(b:Int):=by
 obtain ⟨w,e1,e2,_⟩:=Pe hl h9 h.2.1.2.2 (a:=a) (b -a) (by omega);have h3:=h.2.2
 unfold F3 at h3;rw [e1]at h3;injection h3 with h3
 rw [←h3,e2];congr 1;omega
theorem Lp.eqv_refl(a:Lp):a.eqv a:=⟨rfl,rfl,rfl,rfl,rfl,rfl,rfl⟩
theorem LA{l:List Br}(hl:DW l)(h20:l.length≤20){a b:Nat}(hab:a≤b)(hb:b≤l.length){q:QM}(hq:BP q){x:Lp}(h:EC l a b q=some x):FO (EG l a) (EG l b) x:=by
 obtain ⟨hs,hn⟩:=hl.rows a (by omega);obtain ⟨e,_⟩:=Gr hl h20 hab hb hq h;have h2:=(J2 hl (by omega) b hb).2.1
 obtain ⟨_,h1,hst⟩:=J2 hl (by omega) a (by omega);unfold EC at h;have hx:x.q=q∧x.base=(a:Int)∧x.ranges=Ec (Bh (l.take a)) q∧x.recs=F3 l a b∧x.until_=(b:Int):=by rw [e];exact ⟨rfl,rfl,rfl,rfl,rfl⟩
 refine ⟨by rw [h1,hx.2.1],by rw [h2,hx.2.2.2.2],by rw [hx.2.2.2.1];exact WW hl (by omega) hab hb,fun y hy=>?_,x,by rw [hx.1,hx.2.1,hx.2.2.1,hx.2.2.2.1];exact h,x.eqv_refl⟩;rw [hst];exact dL hs hn (hl.rowsOk a (by omega)) hq y (by rw [←hx.2.2.1];exact hy)
theorem R9{l:List Br}(hl:DW l)(h20:l.length≤20){a b:Nat}(hab:a≤b)(hb:b≤l.length){q:QM}(hq:BP q){x y:Lp}(h:EC l a b q=some x)(hy:y.q=x.q∧y.base=x.base∧y.ranges=x.ranges∧y.recs=x.recs){u:Cm}:FO (EG l a) u y→y.eqv x∧u.p=y.until_∧u.p=(b:Int):=fun hc=>by
 obtain ⟨e,_⟩:=Gr hl h20 hab hb hq h;have hx:x.q=q∧x.base=(a:Int)∧x.ranges=Ec (Bh (l.take a)) q∧x.recs=F3 l a b:=by rw [e];exact ⟨rfl,rfl,rfl,rfl⟩
 obtain ⟨_,h2,h3,_,z,h5,h6⟩:=hc;rw [hy.1,hy.2.1,hy.2.2.1,hy.2.2.2,hx.1,hx.2.1,hx.2.2.1,hx.2.2.2]at h5;unfold EC at h;rw [h]at h5;injection h5 with h5
 subst h5;rw [hy.2.2.2,hx.2.2.2]at h3;exact ⟨h6,h2,WX hl (by omega) hab hb h3⟩
def exC(k n:Int):Chg:=⟨0,k,false,⟨0,0,0⟩,true,⟨n,0,0⟩⟩
def exL(p1 p2 p3:Option Addr):List Br:=[⟨1,p1,1,[exC 5 10]⟩,⟨2,p2,1,[exC 6 99]⟩,⟨3,p3,1,[exC 7 11]⟩]
def exQ:QM:=⟨3,0,1,10,19,0,0⟩
theorem Fs:BP exQ:=by decide
theorem pG{p k n:Int}(hp:1≤p∧p≤10000)(h:(exC k n).ok):ES p [exC k n]:=⟨hp,⟨tQ _,by show 1≤8;decide⟩,fun i c hc=>by
 match i,hc with
 |0,hc=>injection hc with hc;rw [←hc];exact h
 |i+1,hc=>simp at hc,fun i b c hb hc=>by simp at hc⟩
def exR:Nat→List AP
 |0=>[]
 |1=>[⟨0,5,⟨10,0,0⟩⟩]
 |2=>[⟨0,5,⟨10,0,0⟩⟩,⟨0,6,⟨99,0,0⟩⟩]
 |_=>[⟨0,5,⟨10,0,0⟩⟩,⟨0,6,⟨99,0,0⟩⟩,⟨0,7,⟨11,0,0⟩⟩]
theorem aK(p1 p2 p3:Option Addr):Bh ((exL p1 p2 p3).take 0)=exR 0∧Bh ((exL p1 p2 p3).take 1)=exR 1∧Bh ((exL p1 p2 p3).take 2)=exR 2∧Bh ((exL p1 p2 p3).take 3)=exR 3:=⟨rfl,by kernel_rfl,by kernel_rfl,by kernel_rfl⟩
theorem YS{rs:List AP}{p k n:Int}(hp:1≤p+1∧p+1≤10000)(h:(exC k n).ok)(hf:FZ rs (exC k n))(hz:GJ rs [exC k n]≤2000):M9 rs p (p+1) [exC k n]:=⟨pG hp h,rfl,fun c hc=>by rw [tq.1 hc];exact hf,hz⟩
theorem YT(p1 p2 p3:Option Addr):DW (exL p1 p2 p3):=fun i r hr=>by
 obtain ⟨h0,h1,h2,_⟩:=aK p1 p2 p3
 match i,hr with
 |0,hr=>injection hr with hr;subst hr;rw [h0];exact ⟨YS (p:=0) (by decide) (by decide) (by unfold FZ;decide) (by decide),by show 1≤3;decide⟩
 |1,hr=>injection hr with hr;subst hr;rw [h1];exact ⟨YS (p:=1) (by decide) (by decide) (by unfold FZ;decide) (by decide),by show 1≤3;decide⟩
 |2,hr=>injection hr with hr;subst hr;rw [h2];exact ⟨YS (p:=2) (by decide) (by decide) (by unfold FZ;decide) (by decide),by show 1≤3;decide⟩
 |i+3,hr=>simp [exL]at hr
theorem kJ(p1 p2 p3:Option Addr):(∃x,EC (exL p1 p2 p3) 1 2 exQ=some x∧x.res.val=1∧x.since=1∧x.until_=2)∧∃y,EC (exL p1 p2 p3) 1 3 exQ=some y∧y.res.val=2∧y.since=3∧y.until_=3:=by
 have hl:=YT p1 p2 p3;obtain ⟨_,_,h2,h3⟩:=aK p1 p2 p3;have hk:1≤exQ.kd∧exQ.kd≤4:=by decide
 refine ⟨?_,?_⟩
 · cases h:EC (exL p1 p2 p3) 1 2 exQ with
   |none=>exact absurd h (P8 hl (by show 3≤20;decide) (by decide) (by show 2≤3;decide) Fs hk)
   |some x=>
    obtain ⟨e,hs⟩:=Gr hl (by show 3≤20;decide) (by decide) (by show 2≤3;decide) Fs h;refine ⟨x,rfl,?_,?_,by rw [e];rfl⟩
    · rw [e,h2];exact (by decide:(Df (exR 2) exQ).val=1)
    · obtain ⟨⟨a1,a2⟩,a3,_⟩:=hs
      rcases (by omega:x.since=1∨x.since=2)with h9|h9
      · exact h9
      · obtain ⟨j,r,hj,hr,ht⟩:=a3 (by rw [h9];decide)
        obtain rfl:j=1:=by omega
        injection hr with hr
        subst hr;have:Nt exQ ⟨2,p2,1,[exC 6 99]⟩=false:=(by decide:[exC 6 99].any (Eh exQ)=false)
        rw [this]at ht;cases ht
 · cases h:EC (exL p1 p2 p3) 1 3 exQ with
   |none=>exact absurd h (P8 hl (by show 3≤20;decide) (by decide) (by show 3≤3;decide) Fs hk)
   |some x=>
    obtain ⟨e,hs⟩:=Gr hl (by show 3≤20;decide) (by decide) (by show 3≤3;decide) Fs h;refine ⟨x,rfl,?_,?_,by rw [e];rfl⟩
    · rw [e,h3];exact (by decide:(Df (exR 3) exQ).val=2)
    · obtain ⟨⟨a1,a2⟩,_,a4⟩:=hs
      rcases (by omega:x.since=3∨x.since≤2)with h9|h9
      · exact h9
      · have ht:=a4 2 ⟨3,p3,1,[exC 7 11]⟩ (by omega) (by decide) rfl
        have:Nt exQ ⟨3,p3,1,[exC 7 11]⟩=true:=(by decide:[exC 7 11].any (Eh exQ)=true);rw [this]at ht;cases ht
theorem kI(p1 p2 p3:Option Addr):Ev exQ 1 (Ec (Bh ((exL p1 p2 p3).take 1)) exQ) (F3 (exL p1 p2 p3) 2 3)=none:=by
 have hl:=YT p1 p2 p3;obtain ⟨hs,hn⟩:=hl.rows 1 (by show 1≤3;decide);have hst:=Fh hs hn (hl.rowsOk 1 (by show 1≤3;decide)) Fs (GK hl (by show 3≤20;decide) (by show 1≤3;decide) exQ)
 rw [Jv hst (by show 1≤64;decide)];rw [show F3 (exL p1 p2 p3) 2 3=[⟨3,p3,1,[exC 7 11]⟩] from rfl];unfold Gh;rw [if_neg (fun h9=>by have:=h9.2.2;revert this;show(3:Int)=1+1+((0:Nat):Int)→False;decide)];rfl
theorem Wl:CO Tryz.prog 42 #[] [] (fun r H'=>∃g1 g2 g3 g0,r=I6 g0 3 3∧H'=[[(g1,.cells #[I4 0,I4 5,.bool false,I4 0,I4 0,I4 0,.bool true,I4 10,I4 0,I4 0] 77 (0,0))],[(g2,.cells #[I4 0,I4 6,.bool false,I4 0,I4 0,I4 0,.bool true,I4 99,I4 0,I4 0] 77 (0,0))],[(g3,.cells #[I4 0,I4 7,.bool false,I4 0,I4 0,I4 0,.bool true,I4 11,I4 0,I4 0] 77 (0,0))],[(g0,.cells #[I4 1,I6 g1 1 1,I4 2,I6 g2 1 1,I4 3,I6 g3 1 1] 73 (0,0))]]):=by
 refine Se func42 ntmps42 [] ?_;intro u R;refine Zq<|Zg<|Za Y<|Z0<|Zx<|Zq<|Zg<|Zv (BK (vs:=[(0,_),(1,_),(2,_)]) (cs:=#[_,_,_]) Y (Ch zeroValue75 underlying75 sizeOf3 rfl)) ?_;refine Zv (BK (vs:=[(1,I4 5),(4,.bool true),(5,.agg #[I4 10,I4 0,I4 0])]) (cs:=#[I4 0,I4 5,.bool false,I4 0,I4 0,I4 0,.bool true,I4 10,I4 0,I4 0]) Y (Aa (pl:=#[(0,1),(1,1),(2,1),(3,3),(6,1),(7,3)]) zeroValue77 underlying77 (fun _=>by kernel_rfl) (by kernel_rfl))) ?_;refine Ze (Ae (vs:=[_]) (cs:=[_,_,_,_,_,_,_,_,_,_]) underlying71 sizeOf77 zeroValue77 Y rfl rfl rfl rfl rfl) ?_;rintro _ _ ⟨g1,rfl,rfl⟩;refine Zv (BK (vs:=[(0,_),(1,_)]) (cs:=#[_,_]) Y (Aa (pl:=#[(0,1),(1,1)]) zeroValue73 underlying73 (fun _=>by kernel_rfl) rfl)) ?_;refine Zv (BK (vs:=[(0,_),(1,_),(2,_)]) (cs:=#[_,_,_]) Y (Ch zeroValue75 underlying75 sizeOf3 rfl)) ?_;refine Zv (BK (vs:=[(1,I4 6),(4,.bool true),(5,.agg #[I4 99,I4 0,I4 0])]) (cs:=#[I4 0,I4 6,.bool false,I4 0,I4 0,I4 0,.bool true,I4 99,I4 0,I4 0]) Y (Aa (pl:=#[(0,1),(1,1),(2,1),(3,3),(6,1),(7,3)]) zeroValue77 underlying77 (fun _=>by kernel_rfl) (by kernel_rfl))) ?_;refine Ze (Ae (vs:=[_]) (cs:=[_,_,_,_,_,_,_,_,_,_]) underlying71 sizeOf77 zeroValue77 Y rfl rfl rfl rfl rfl) ?_;rintro _ _ ⟨g2,rfl,rfl⟩;refine Zv (BK (vs:=[(0,_),(1,_)]) (cs:=#[_,_]) Y (Aa (pl:=#[(0,1),(1,1)]) zeroValue73 underlying73 (fun _=>by kernel_rfl) rfl)) ?_;refine Zv (BK (vs:=[(0,_),(1,_),(2,_)]) (cs:=#[_,_,_]) Y (Ch zeroValue75 underlying75 sizeOf3 rfl)) ?_;refine Zv (BK (vs:=[(1,I4 7),(4,.bool true),(5,.agg #[I4 11,I4 0,I4 0])]) (cs:=#[I4 0,I4 7,.bool false,I4 0,I4 0,I4 0,.bool true,I4 11,I4 0,I4 0]) Y (Aa (pl:=#[(0,1),(1,1),(2,1),(3,3),(6,1),(7,3)]) zeroValue77 underlying77 (fun _=>by kernel_rfl) (by kernel_rfl))) ?_;refine Ze (Ae (vs:=[_]) (cs:=[_,_,_,_,_,_,_,_,_,_]) underlying71 sizeOf77 zeroValue77 Y rfl rfl rfl rfl rfl) ?_;rintro _ _ ⟨g3,rfl,rfl⟩;refine Zv (BK (vs:=[(0,_),(1,_)]) (cs:=#[_,_]) Y (Aa (pl:=#[(0,1),(1,1)]) zeroValue73 underlying73 (fun _=>by kernel_rfl) rfl)) ?_
 refine Ze (Ae (vs:=[_,_,_]) (cs:=[_,_,_,_,_,_]) underlying28 sizeOf73 zeroValue73 Y rfl rfl rfl rfl rfl) ?_;rintro _ _ ⟨g0,rfl,rfl⟩;refine Za Y<|Z0<|Zn [0] ?_;refine Zx<|A9 ?_;refine AB rfl results42 Y (by exact ⟨g1,g2,g3,g0,rfl,rfl⟩)
structure rz(l:List Br):Prop where
 ok:DW l
 len:l.length=3
 one:∃x,EC l 1 2 exQ=some x∧x.res.val=1∧x.since=1∧x.until_=2
 two:∃y,EC l 1 3 exQ=some y∧y.res.val=2∧y.since=3∧y.until_=3
 third:Ev exQ 1 (Ec (Bh (l.take 1)) exQ) (F3 l 2 l.length)=none
theorem Uh{M:List AR}{g:Nat}{T:TypeId}{z:Nat×Nat}{cur:Array Value}{c:Chg}(hm:(g,Obj.cells cur T z)∈M)(hs:10≤cur.size)(he:cur.extract 0 10=#[I4 c.t,I4 c.k,.bool c.had,I4 c.o.a,I4 c.o.b,I4 c.o.c,.bool c.has,I4 c.n.a,I4 c.n.b,I4 c.n.c]):Dh M (I6 g [c].length 1) [c]:=⟨_,_,rfl,by show 1≤maxLen;decide,fun i x hx=>by
 match i,hx with
 |0,hx=>injection hx with hx;subst hx;exact ⟨g,0,cur,T,z,rfl,hm,by omega,by simpa using he⟩
 |i+1,hx=>simp at hx⟩
theorem eX:CO Tryz.prog 42 #[] [] (fun r H'=>∃(l:List Br) (p:Option Addr) (cap:Nat) (M:List AR),rz l∧Du M (.slice p l.length cap) l∧r= .slice p l.length cap∧H'=[M]):=by
 refine EB Wl rfl ?_;rintro r H' ⟨g1,g2,g3,g0,rfl,rfl⟩;obtain ⟨h1,h2⟩:=kJ (some ⟨g1,0,none⟩) (some ⟨g2,0,none⟩) (some ⟨g3,0,none⟩);refine ⟨_,⟨exL (some ⟨g1,0,none⟩) (some ⟨g2,0,none⟩) (some ⟨g3,0,none⟩),some ⟨g0,0,none⟩,3,[(g1,.cells #[I4 0,I4 5,.bool false,I4 0,I4 0,I4 0,.bool true,I4 10,I4 0,I4 0] 77 (0,0)),(g2,.cells #[I4 0,I4 6,.bool false,I4 0,I4 0,I4 0,.bool true,I4 99,I4 0,I4 0] 77 (0,0)),(g3,.cells #[I4 0,I4 7,.bool false,I4 0,I4 0,I4 0,.bool true,I4 11,I4 0,I4 0] 77 (0,0)),(g0,.cells #[I4 1,I6 g1 1 1,I4 2,I6 g2 1 1,I4 3,I6 g3 1 1] 73 (0,0))],⟨YT _ _ _,rfl,h1,h2,kI _ _ _⟩,⟨_,_,rfl,⟨by show 3≤maxLen;decide,tQ _⟩,fun i r hr=>?_⟩,rfl,rfl⟩,by simp⟩
 match i,hr with
 |0,hr=>injection hr with hr;subst hr;exact ⟨Uh (g:=g1) (c:=exC 5 10) (.head _) (by decide) rfl,g0,0,_,_,_,rfl,.tail _ (.tail _ (.tail _ (.head _))),wR rfl,rfl⟩
 |1,hr=>injection hr with hr;subst hr;exact ⟨Uh (g:=g2) (c:=exC 6 99) (.tail _ (.head _)) (by decide) rfl,g0,0,_,_,_,rfl,.tail _ (.tail _ (.tail _ (.head _))),wR rfl,rfl⟩
 |2,hr=>injection hr with hr;subst hr;exact ⟨Uh (g:=g3) (c:=exC 7 11) (.tail _ (.tail _ (.head _))) (by decide) rfl,g0,0,_,_,_,rfl,.tail _ (.tail _ (.tail _ (.head _))),wR rfl,rfl⟩
 |i+3,hr=>simp [exL]at hr
theorem L9{l:List Br}(hl:DW l)(h20:l.length≤20){a b:Nat}(hab:a≤b)(hb:b≤l.length){q:QM}(hq:BP q){x:Lp}(h:EC l a b q=some x):(∀y∈x.ranges,y.small)∧x.ranges.length≤1000000∧(-1000000000000≤x.base∧x.base≤1000000000000)∧(∀r∈x.recs,r.cs.length≤1000)∧FY x.q x.ranges=some (Df (Bh (l.take a)) q):=by
 obtain ⟨hs,hn⟩:=hl.rows a (by omega);have hscan:=GK hl h20 (by omega:a≤l.length) q
 have hst:=Fh hs hn (hl.rowsOk a (by omega)) hq hscan;have hm:=Le (Bh (l.take a)) q
 obtain ⟨e,_⟩:=Gr hl h20 hab hb hq h;rw [e];exact ⟨W9 hs hn q,by show(Ec _ _).length≤_;omega,by show _≤(a:Int)∧(a:Int)≤_;omega,Km hl a b,hst⟩
theorem WO{v:Value}{l:List Br}{n:Nat}{s:List AR}(h:BX 3 67 v n (Gn (Kw l n)) s)(hn:0<n):∃g cap cur z,v=I6 g n cap∧s=[(g,.cells cur 67 z)]∧∀i,i<n→0+i*3+3≤cur.size∧cur.extract (0+i*3) (0+i*3+3)=#[I4 (EG l i).p,.string (str (EG l i).ch),.string (str (EG l i).st)]:=by
 obtain ⟨g,cap,cur,z,rfl,rfl,_,_⟩:=Db h hn;refine ⟨g,cap,cur,z,rfl,rfl,fun i hi=>?_⟩;obtain ⟨g',cap',cur',z',hv,hs,hsz,hex⟩:=Ha h i hi;injection hs with hs
 injection hs with hs1 hs2
 injection hs2 with hs2 hs3 hs4
 subst hs2;rw [uL];refine ⟨hsz,vS.1 ?_⟩;rw [hex];exact GN (fun h:Cm=>[I4 h.p,.string (str h.ch),.string (str h.st)]) 3 (fun _=>rfl) (Kw l n) i (EG l i) (by unfold Kw;rw [uD,xQ hi];rfl)
theorem mI{A M:List AR}{x y:GG}(hx:x.ok (A++M))(hy:y.ok (A++M)):Av Tryz.prog 28 #[.agg #[I4 x.a.q.kd,I4 x.a.q.tb,I4 x.a.q.cl,I4 x.a.q.lo,I4 x.a.q.hi,I4 x.a.q.bq,I4 x.a.q.ot,.slice x.rp x.a.res.rows.length x.rc,I4 x.a.res.val,.bool x.a.res.fnd,I4 x.a.since,I4 x.a.until_,I4 x.a.base,.slice x.gp x.a.ranges.length x.gc,.slice x.cp x.a.recs.length x.cc],.agg #[I4 y.a.q.kd,I4 y.a.q.tb,I4 y.a.q.cl,I4 y.a.q.lo,I4 y.a.q.hi,I4 y.a.q.bq,I4 y.a.q.ot,.slice y.rp y.a.res.rows.length y.rc,I4 y.a.res.val,.bool y.a.res.fnd,I4 y.a.since,I4 y.a.until_,I4 y.a.base,.slice y.gp y.a.ranges.length y.gc,.slice y.cp y.a.recs.length y.cc]] [A,M] (.bool (decide (x.a.eqv y.a))):=by
 refine EB (MJ hx hy) (by simp) ?_;rintro r H' ⟨rfl,rfl⟩;exact ⟨_,⟨rfl,rfl⟩,by simp⟩
theorem mH{A B M:List AR}{x y:GG}(hx:x.ok (A++M))(hy:y.ok (B++M)):Av Tryz.prog 28 #[.agg #[I4 x.a.q.kd,I4 x.a.q.tb,I4 x.a.q.cl,I4 x.a.q.lo,I4 x.a.q.hi,I4 x.a.q.bq,I4 x.a.q.ot,.slice x.rp x.a.res.rows.length x.rc,I4 x.a.res.val,.bool x.a.res.fnd,I4 x.a.since,I4 x.a.until_,I4 x.a.base,.slice x.gp x.a.ranges.length x.gc,.slice x.cp x.a.recs.length x.cc],.agg #[I4 y.a.q.kd,I4 y.a.q.tb,I4 y.a.q.cl,I4 y.a.q.lo,I4 y.a.q.hi,I4 y.a.q.bq,I4 y.a.q.ot,.slice y.rp y.a.res.rows.length y.rc,I4 y.a.res.val,.bool y.a.res.fnd,I4 y.a.since,I4 y.a.until_,I4 y.a.base,.slice y.gp y.a.ranges.length y.gc,.slice y.cp y.a.recs.length y.cc]] [A,B,M] (.bool (decide (x.a.eqv y.a))):=by
 refine EB (MJ (hx.mono (M':=A++(B++M)) (fun c hc=>by rcases uF.1 hc with h9|h9;exact u6 _ h9;exact tZ _ (tZ _ h9))) (hy.mono (fun c hc=>tZ A hc))) (by simp) ?_;rintro r H' ⟨rfl,rfl⟩;exact ⟨_,⟨rfl,rfl⟩,by simp⟩
theorem fH:¬BP ⟨0,0,0,0,0,0,0⟩:=by decide
set_option maxHeartbeats 4000000 in
theorem og(Tg:TypeId)(zg:Nat×Nat):Av Tryz.prog 11 #[] [[(1,.cells (Cs.map Bj).toArray Tg zg)]] (.bool true):=by
 have hml:=mL;refine Se func11 ntmps11 [] ?_;intro u R;refine Zq<|Zg<|Za Y<|Z0<|Zx<|Zq<|Zg<|Zc [] Y call42 Y rfl (eX) ?_;rintro _ _ ⟨_,⟨l,p,cap,M,hex,hRI,rfl,rfl⟩,rfl⟩;have hlen:=hex.len
 obtain ⟨L1,hL1⟩:∃L,L=Ec (Bh (l.take 1)) exQ:=⟨_,rfl⟩;refine Za Y<|Z0<|Zx<|Zq<|Zg<|Zv (BK (vs:=[(0,I4 3),(2,I4 1),(3,I4 10),(4,I4 19)]) (cs:=#[I4 3,I4 0,I4 1,I4 10,I4 19,I4 0,I4 0]) Y (Aa (pl:=#[(0,1),(1,1),(2,1),(3,1),(4,1),(5,1),(6,1)]) zeroValue30 underlying30 (fun _=>by kernel_rfl) (by kernel_rfl))) ?_;refine Ze (Al zeroValue30 #[_,_,_,_,_,_,_]) ?_;rintro _ _ ⟨bq,rfl,rfl⟩;refine Xe (Xw sizeOf30 #[I4 3,I4 0,I4 1,I4 10,I4 19,I4 0,I4 0]) ?_;refine Z0<|Zx<|Zq<|Zg<|Zm Y<|Zo Wh (AX (cs:=#[_,_,_,_,_,_,_]) isAgg30 sizeOf30 Y Wb (by exact Au rfl)) ?_;refine Zc [_,_,_,_] Y call29 Y rfl (Um hRI hex.ok (by omega) 1 2 (by decide) (by omega) exQ Fs Tg zg) ?_;rintro _ _ ⟨_,⟨z1,E1,t1,pg1,cg1,hz1,hR1,rfl,rfl⟩,rfl⟩;obtain ⟨x1,hx1,hv1,hs1,hu1⟩:=hex.one;obtain ⟨rfl,hb1,hzo1⟩:t1=true∧EC l 1 2 exQ=some z1.a∧z1.ok (E1++M):=by rcases hz1 with h9|⟨_,h9⟩;exact h9;rw [hx1]at h9;cases h9
 obtain rfl:x1=z1.a:=by rw [hx1]at hb1;injection hb1
 rw [←hL1]at hR1⊢;obtain ⟨f11,f12,f13,f14,f15⟩:=L9 hex.ok (by omega) (by decide) (by omega) Fs hb1;have ck1:=LA hex.ok (by omega) (by decide:1≤2) (by omega) Fs hb1
 refine Zm Y<|Zd Y rfl<|Zd Y rfl<|Zd Y rfl<|Ze (Al zeroValue57 #[_,_,_,_,_,_,_,_,_,_]) ?_;rintro _ _ ⟨b3,rfl,rfl⟩;refine Ze (Al zeroValue53 #[_,_,_,_,_,_,_,_,_,_,_,_,_,_,_]) ?_;rintro _ _ ⟨b4,rfl,rfl⟩;refine Xe (Xw sizeOf57 #[I4 3,I4 0,I4 1,I4 10,I4 19,I4 0,I4 0,I4 0,I4 1,.slice pg1 L1.length cg1]) ?_;refine Xe (Xw sizeOf53 #[I4 z1.a.q.kd,I4 z1.a.q.tb,I4 z1.a.q.cl,I4 z1.a.q.lo,I4 z1.a.q.hi,I4 z1.a.q.bq,I4 z1.a.q.ot,.slice z1.rp z1.a.res.rows.length z1.rc,I4 z1.a.res.val,.bool z1.a.res.fnd,I4 z1.a.since,I4 z1.a.until_,I4 z1.a.base,.slice z1.gp z1.a.ranges.length z1.gc,.slice z1.cp z1.a.recs.length z1.cc]) ?_;refine Za Y<|Z0<|Zn [1,2,3,4,5] ?_;refine Zx<|Zq<|Zg<|Zm Y<|Zo Wh (AX (cs:=#[_,_,_,_,_,_,_]) isAgg30 sizeOf30 Y Wb (by exact Au rfl)) ?_;refine Zc [_,_,_,_] Y call29 Y rfl (Um hRI hex.ok (by omega) 1 3 (by decide) (by omega) exQ Fs Tg zg) ?_;rintro _ _ ⟨_,⟨z2,E2,t2,pg2,cg2,hz2,hR2,rfl,rfl⟩,rfl⟩;obtain ⟨x2,hx2,hv2,hs2,hu2⟩:=hex.two;obtain ⟨rfl,hb2,hzo2⟩:t2=true∧EC l 1 3 exQ=some z2.a∧z2.ok (E2++M):=by rcases hz2 with h9|⟨_,h9⟩;exact h9;rw [hx2]at h9;cases h9
 obtain rfl:x2=z2.a:=by rw [hx2]at hb2;injection hb2
 rw [←hL1]at hR2⊢;obtain ⟨f21,f22,f23,f24,f25⟩:=L9 hex.ok (by omega) (by decide) (by omega) Fs hb2;have ck2:=LA hex.ok (by omega) (by decide:1≤3) (by omega) Fs hb2
 refine Zm Y<|Zd Y rfl<|Zd Y rfl<|Zd Y rfl<|Ze (Al zeroValue57 #[_,_,_,_,_,_,_,_,_,_]) ?_;rintro _ _ ⟨b6,rfl,rfl⟩;refine Ze (Al zeroValue53 #[_,_,_,_,_,_,_,_,_,_,_,_,_,_,_]) ?_;rintro _ _ ⟨b7,rfl,rfl⟩;refine Xe (Xw sizeOf57 #[I4 3,I4 0,I4 1,I4 10,I4 19,I4 0,I4 0,I4 0,I4 1,.slice pg2 L1.length cg2]) ?_;refine Xe (Xw sizeOf53 #[I4 z2.a.q.kd,I4 z2.a.q.tb,I4 z2.a.q.cl,I4 z2.a.q.lo,I4 z2.a.q.hi,I4 z2.a.q.bq,I4 z2.a.q.ot,.slice z2.rp z2.a.res.rows.length z2.rc,I4 z2.a.res.val,.bool z2.a.res.fnd,I4 z2.a.since,I4 z2.a.until_,I4 z2.a.base,.slice z2.gp z2.a.ranges.length z2.gc,.slice z2.cp z2.a.recs.length z2.cc]) ?_;refine Za Y<|Z0<|Zx<|Zb [3,1,4,5,7,8] ?_;refine CW (e0:=[(3,_)]) (H0:=[E1,M]) (fun e H=>(True)∧e=[(10,.bool false)]∧H=[E1,M]) Wp ?hx_1 ?hy_1
 case hx_1=>
  refine BI (n:=10) (0::0::2::7::15::31::31::0::191::511::[]) 392 (by kernel_rfl) (by kernel_rfl) rfl ?_;refine Cj (D':=1) 0 rfl rfl rfl Wh (AX (cs:=#[_,_,_,_,_,_,_,_,_,_]) isAgg57 sizeOf57 Y (by exact tQ _) (by exact Au rfl)) ?_;refine Zi 3 1 rfl (AJ Y) ?_;refine Zi 7 2 rfl (Bz (l:=2) underlying28 sizeOf73 Y Y (by omega)) ?_;refine Zz (l:=[3,7]) ?_;refine Zy 7 15 [0] [false] [] rfl Y rfl rfl rfl rfl (Zw [_,_] Y call18 Y rfl (Nb exQ 0 1 (by decide) hR1 (by rw [hL1];have:=Le (Bh (l.take 1)) exQ;have:=GK hex.ok (by omega) (by omega:1≤l.length) exQ;omega) (by rw [hL1];exact Fh (hex.ok.rows 1 (by omega)).1 (hex.ok.rows 1 (by omega)).2 (hex.ok.rowsOk 1 (by omega)) Fs (GK hex.ok (by omega) (by omega) exQ)) (G7 (NA (a:=2) hRI (by omega) (tQ _)) (fun c hc=>tZ E1 hc)) (Km hex.ok 2 l.length))) ?hk_2 D9 ?hl_2
  case hk_2=>
   rintro _ _ ⟨_,⟨z9,s9,t9,hz9,rfl,rfl⟩,rfl⟩;refine ⟨Ad,?_⟩;obtain rfl:t9=false:=by rcases hz9 with⟨_,h9,_⟩|⟨h9,_⟩;rw [hL1,show(l.drop 2).take (l.length -2)=F3 l 2 l.length from rfl,hex.third]at h9;cases h9;exact h9
   refine Zi 31 4 rfl (AJ Y)<|Zi 63 5 rfl (Cc Y rfl)<|Zi 127 6 rfl (Cc Y rfl)<|Zz (l:=[7]) ?_;refine Zy 0 255 [] [] [] rfl Y rfl rfl rfl rfl (Al zeroValue53 #[_,_,_,_,_,_,_,_,_,_,_,_,_,_,_]) ?hk_3 (fun _ _ h=>h.elim) ?hl_3
   case hk_3=>
    rintro _ _ ⟨b9,rfl,rfl⟩;refine ⟨Ad,?_⟩;refine Yw 8 511 rfl (Xw sizeOf53 #[I4 z9.a.q.kd,I4 z9.a.q.tb,I4 z9.a.q.cl,I4 z9.a.q.lo,I4 z9.a.q.hi,I4 z9.a.q.bq,I4 z9.a.q.ot,.slice z9.rp z9.a.res.rows.length z9.rc,I4 z9.a.res.val,.bool z9.a.res.fnd,I4 z9.a.since,I4 z9.a.until_,I4 z9.a.base,.slice z9.gp z9.a.ranges.length z9.gc,.slice z9.cp z9.a.recs.length z9.cc]) ?_;rintro _ _ ⟨rfl,rfl⟩;refine Zi 1023 9 rfl (Ay Y)<|Am ?_;refine Zn [10,1,4,5,7,8] ?_;refine BB (e':=[(10,_)]) (by exact ⟨trivial,rfl,rfl⟩)
   exact Aw
  refine Zy 0 135 [0] [true] [(0,(_,_))] rfl Y rfl rfl rfl rfl (Al zeroValue53 #[_,_,_,_,_,_,_,_,_,_,_,_,_,_,_]) ?hk_6 (fun _ _ h=>h.elim) ?hl_6
  case hk_6=>
   rintro _ _ ⟨b9,rfl,rfl⟩;refine ⟨Zk (Ad),?_⟩;refine Zz (l:=[3]) ?_;refine Zy 7 143 [0] [false] [] rfl Y rfl rfl rfl rfl (Zw [_,_] Y call18 Y rfl (Nb exQ 0 1 (by decide) hR1 (by rw [hL1];have:=Le (Bh (l.take 1)) exQ;have:=GK hex.ok (by omega) (by omega:1≤l.length) exQ;omega) (by rw [hL1];exact Fh (hex.ok.rows 1 (by omega)).1 (hex.ok.rows 1 (by omega)).2 (hex.ok.rowsOk 1 (by omega)) Fs (GK hex.ok (by omega) (by omega) exQ)) (G7 (NA (a:=2) hRI (by omega) (tQ _)) (fun c hc=>tZ E1 hc)) (Km hex.ok 2 l.length))) ?hk_7 D9 ?hl_7
   case hk_7=>
    rintro _ _ ⟨_,⟨z9,s9,t9,hz9,rfl,rfl⟩,rfl⟩;refine ⟨Ad,?_⟩;obtain rfl:t9=false:=by rcases hz9 with⟨_,h9,_⟩|⟨h9,_⟩;rw [hL1,show(l.drop 2).take (l.length -2)=F3 l 2 l.length from rfl,hex.third]at h9;cases h9;exact h9
    refine Zi 159 4 rfl (AJ Y)<|Zi 191 5 rfl (Cc Y rfl)<|Zi 255 6 rfl (Cc Y rfl)<|Zz (l:=[8]) ?_;refine Zy 191 511 [] [] [] rfl Y rfl rfl rfl rfl (Xw sizeOf53 #[I4 z9.a.q.kd,I4 z9.a.q.tb,I4 z9.a.q.cl,I4 z9.a.q.lo,I4 z9.a.q.hi,I4 z9.a.q.bq,I4 z9.a.q.ot,.slice z9.rp z9.a.res.rows.length z9.rc,I4 z9.a.res.val,.bool z9.a.res.fnd,I4 z9.a.since,I4 z9.a.until_,I4 z9.a.base,.slice z9.gp z9.a.ranges.length z9.gc,.slice z9.cp z9.a.recs.length z9.cc]) ?hk_8 (fun _ _ h=>h.elim) ?hl_8
    case hk_8=>
     rintro _ _ ⟨rfl,rfl⟩;refine ⟨Ad,?_⟩;refine Zi 1023 9 rfl (Ay Y)<|Am ?_;refine Zn [10,1,4,5,7,8] ?_;refine BB (e':=[(10,_)]) (by exact ⟨trivial,rfl,rfl⟩)
    exact Aw
   exact Aw
  exact Aw
 rintro _ _ ⟨_,rfl,rfl⟩;refine Zq<|Zg<|Zm Y<|Zc [_] Y call22 Y rfl (Sk hRI hex.ok (by omega)) ?_;rintro _ _ ⟨_,⟨sh,hsh,rfl⟩,rfl⟩;rw [hlen]at hsh;obtain ⟨gh,ch,curh,zh,rfl,rfl,hw⟩:=WO hsh (by decide);have hw1:=hw 1 (by decide)
 have hw2:=hw 2 (by decide);have hw3:=hw 3 (by decide)
 have hp2:=(J2 hex.ok (by omega) 2 (by omega)).2.1;obtain ⟨h1,hh1⟩:∃h,h=EG l 1:=⟨_,rfl⟩;obtain ⟨h2,hh2⟩:∃h,h=EG l 2:=⟨_,rfl⟩;obtain ⟨h3,hh3⟩:∃h,h=EG l 3:=⟨_,rfl⟩;rw [←hh1]at hw1;rw [←hh2]at hw2;rw [←hh3]at hw3;rw [←hh1,←hh2]at ck1;rw [←hh1,←hh3]at ck2;rw [←hh2]at hp2;obtain ⟨e1,_⟩:=Gr hex.ok (by omega) (by decide:1≤3) (by omega) Fs hb2;have hba2:z2.a.base=1:=by rw [e1];rfl
 have ck3:¬FO h1 h3 (⟨⟨z2.a.q,⟨z2.a.res.rows,1,z2.a.res.fnd⟩,z2.a.since,z2.a.until_,z2.a.base,z2.a.ranges,z2.a.recs⟩,z2.rp,z2.rc,z2.gp,z2.gc,z2.cp,z2.cc⟩:GG).a:=fun h9=>by have h8:=(R9 hex.ok (by omega) (by decide:1≤3) (by omega) Fs hb2 (y:=(⟨⟨z2.a.q,⟨z2.a.res.rows,1,z2.a.res.fnd⟩,z2.a.since,z2.a.until_,z2.a.base,z2.a.ranges,z2.a.recs⟩,z2.rp,z2.rc,z2.gp,z2.gc,z2.cp,z2.cc⟩:GG).a) ⟨rfl,rfl,rfl,rfl⟩ (u:=h3) (by rw [←hh1];exact h9)).1.2.2.2.2.1;have h7:=congrArg CG.val h8;rw [hv2]at h7;revert h7;show¬(1:Int)=2;decide
 have ck4:¬FO h2 h3 z2.a:=fun h9=>by have h8:=h9.1;rw [hp2,hba2]at h8;revert h8;decide
 have sm1:z1.a.eqv z1.a:=z1.a.eqv_refl;have sm2:¬z1.a.eqv z2.a:=fun h9=>by have h8:=h9.2.1;rw [hs1,hs2]at h8;revert h8;decide
 refine Za Y<|Z0<|Zx<|Zq<|Zg<|Zo Wh (AX (cs:=#[I4 z2.a.q.kd,I4 z2.a.q.tb,I4 z2.a.q.cl,I4 z2.a.q.lo,I4 z2.a.q.hi,I4 z2.a.q.bq,I4 z2.a.q.ot,.slice z2.rp z2.a.res.rows.length z2.rc,I4 z2.a.res.val,.bool z2.a.res.fnd,I4 z2.a.since,I4 z2.a.until_,I4 z2.a.base,.slice z2.gp z2.a.ranges.length z2.gc,.slice z2.cp z2.a.recs.length z2.cc]) isAgg53 sizeOf53 Y Wb (by exact Au rfl)) ?_;refine Ze (Al zeroValue53 #[_,_,_,_,_,_,_,_,_,_,_,_,_,_,_]) ?_;rintro _ _ ⟨bc,rfl,rfl⟩;refine Xe (Xw sizeOf53 #[I4 z2.a.q.kd,I4 z2.a.q.tb,I4 z2.a.q.cl,I4 z2.a.q.lo,I4 z2.a.q.hi,I4 z2.a.q.bq,I4 z2.a.q.ot,.slice z2.rp z2.a.res.rows.length z2.rc,I4 z2.a.res.val,.bool z2.a.res.fnd,I4 z2.a.since,I4 z2.a.until_,I4 z2.a.base,.slice z2.gp z2.a.ranges.length z2.gc,.slice z2.cp z2.a.recs.length z2.cc]) ?_;refine Z0<|Zx<|Zq<|Zg<|Zh 7 underlying53 rfl rfl sizeOf51 Y<|Zv (BH (off:=1) underlying51 rfl rfl sizeOf3 Y)<|Xe (Zs sizeOf3 Y Y rfl (hc:=by exact (rfl:_=(#[I4 z2.a.q.kd,I4 z2.a.q.tb,I4 z2.a.q.cl,I4 z2.a.q.lo,I4 z2.a.q.hi,I4 z2.a.q.bq,I4 z2.a.q.ot,.slice z2.rp z2.a.res.rows.length z2.rc,I4 1,.bool z2.a.res.fnd,I4 z2.a.since,I4 z2.a.until_,I4 z2.a.base,.slice z2.gp z2.a.ranges.length z2.gc,.slice z2.cp z2.a.recs.length z2.cc]:Array Value))) (hi:=by first|omega|decide|(simp;done))) ?_;refine Z0<|Zx<|Zq<|Zg<|Zc [] Y call43 Y rfl (gU) ?_;rintro _ _ ⟨_,⟨sp9,mb9,rfl,rfl⟩,rfl⟩;refine Zv (BK (vs:=[]) (cs:=#[I4 0,I4 0,I4 0,I4 0,I4 0,I4 0,I4 0]) Y (Aa (pl:=#[(0,1),(1,1),(2,1),(3,1),(4,1),(5,1),(6,1)]) zeroValue30 underlying30 (fun _=>by kernel_rfl) (by kernel_rfl))) ?_;refine Xr [_,_] Y call15 Y rfl (jL (s:=[]) ⟨0,0,0,0,0,0,0⟩ fH) ?_;refine Zm Y<|Zd Y rfl<|Zd Y rfl<|Za Y<|Za Y<|Z0<|Zn [4,5,7,8,10,11,12,14] ?_
 refine Zx<|Zq<|BI (n:=98) (0::1::3::7::15::31::63::127::255::511::1023::2047::4095::8191::16383::32767::65535::131071::262143::524287::1048575::2097151::4194303::8388607::16777215::33554431::67108863::134217727::268435455::536870911::1073741823::2147483647::4294967295::8589934591::17179869183::34359738367::68719476735::137438953471::274877906943::549755813887::1099511627775::2199023255551::4398046511103::8796093022207::2199023255551::19791209299967::54975581388799::2199023255551::281474976710655::562949953421311::1125899906842623::2251799813685247::4503599627370495::9007199254740991::2251799813685247::20266198323167231::56294995342131199::2251799813685247::288230376151711743::576460752303423487::1152921504606846975::2305843009213693951::4611686018427387903::9223372036854775807::2305843009213693951::20752587082923245567::57646075230342348799::2305843009213693951::295147905179352825855::590295810358705651711::1180591620717411303423::2361183241434822606847::4722366482869645213695::9444732965739290427391::18889465931478580854783::4722366482869645213695::42501298345826806923263::118059162071741130342399::4722366482869645213695::604462909807314587353087::1208925819614629174706175::2417851639229258349412351::4835703278458516698824703::9671406556917033397649407::9671406556917033397649407::38685626227668133590597631::77371252455336267181195263::154742504910672534362390527::309485009821345068724781055::309485009821345068724781055::1237940039285380274899124223::2475880078570760549798248447::4951760157141521099596496895::9903520314283042199192993791::19807040628566084398385987583::39614081257132168796771975167::79228162514264337593543950335::158456325028528675187087900671::[]) 1277230423859272753558323200 (by kernel_rfl) (by kernel_rfl) rfl ?_;refine Zi 1 0 rfl (AJ Y)<|Zi 3 1 rfl (AJ Y) ?_;refine CP (t:=50) Y (fun k1=>?_) (fun k1=>?_)
 ·
  first|rw [decide_eq_true k1]|rw [k1]|skip
  refine Ag (D':=7) 2 Y rfl rfl rfl (AJ Y) ?_;refine Zi 15 3 rfl (AL Y Y)<|Zi 31 4 rfl (AJ Y) ?_;refine CP (t:=53) Y (fun k2=>?_) (fun k2=>?_)
  ·
   first|rw [decide_eq_true k2]|rw [k2]|skip
   refine Ag (D':=63) 5 Y rfl rfl rfl (AJ Y) ?_;refine Ag (D':=127) 6 Y rfl rfl rfl (Ca Y) ?_;refine Zi 255 7 rfl (AL Y Y)<|Zi 511 8 rfl (AJ Y) ?_;refine CP (t:=57) Y (fun k3=>?_) (fun k3=>?_)
   ·
    first|rw [decide_eq_true k3]|rw [k3]|skip
    refine Ag (D':=1023) 9 Y rfl rfl rfl (AZ (off:=7) underlying53 rfl rfl sizeOf51 Y) ?_;refine Ag (D':=2047) 10 Y rfl rfl rfl (BH (off:=1) underlying51 rfl rfl sizeOf3 Y) ?_;refine Bl (D':=4095) 11 Y rfl rfl rfl Wh (Bf isAgg3 Y (by rfl)) ?_;refine Ag (D':=8191) 12 Y rfl rfl rfl (CF Y Y) ?_;refine Zi 16383 13 rfl (AL Y Y)<|Zi 32767 14 rfl (AJ Y) ?_;refine CS (t:=63) Y (fun k4=>?_) (fun k4=>?_)
    ·
     first|rw [decide_eq_true k4]|rw [k4]|skip
     refine Ag (D':=65535) 15 Y rfl rfl rfl (AZ (off:=10) underlying53 rfl rfl sizeOf3 Y) ?_;refine Bl (D':=131071) 16 Y rfl rfl rfl Wh (Bf isAgg3 Y (by rfl)) ?_;refine Ag (D':=262143) 17 Y rfl rfl rfl (CF Y Y) ?_;refine Zi 524287 18 rfl (AL Y Y)<|Zi 1048575 19 rfl (AJ Y) ?_;refine CS (t:=68) Y (fun k5=>?_) (fun k5=>?_)
     ·
      first|rw [decide_eq_true k5]|rw [k5]|skip
      refine Ag (D':=2097151) 20 Y rfl rfl rfl (AZ (off:=11) underlying53 rfl rfl sizeOf3 Y) ?_;refine Bl (D':=4194303) 21 Y rfl rfl rfl Wh (Bf isAgg3 Y (by rfl)) ?_;refine Ag (D':=8388607) 22 Y rfl rfl rfl (CF Y Y) ?_;refine Zi 16777215 23 rfl (AL Y Y)<|Zi 33554431 24 rfl (AJ Y) ?_;refine CS (t:=73) Y (fun k6=>?_) (fun k6=>?_)
      ·
       first|rw [decide_eq_true k6]|rw [k6]|skip
       refine Ag (D':=67108863) 25 Y rfl rfl rfl (AZ (off:=7) underlying53 rfl rfl sizeOf51 Y) ?_;refine Ag (D':=134217727) 26 Y rfl rfl rfl (BH (off:=1) underlying51 rfl rfl sizeOf3 Y) ?_;refine Bl (D':=268435455) 27 Y rfl rfl rfl Wh (Bf isAgg3 Y (by rfl)) ?_;refine Ag (D':=536870911) 28 Y rfl rfl rfl (CF Y Y) ?_;refine Zi 1073741823 29 rfl (AL Y Y)<|Zi 2147483647 30 rfl (AJ Y) ?_;refine CS (t:=79) Y (fun k7=>?_) (fun k7=>?_)
       ·
        first|rw [decide_eq_true k7]|rw [k7]|skip
        refine Ag (D':=4294967295) 31 Y rfl rfl rfl (AZ (off:=10) underlying53 rfl rfl sizeOf3 Y) ?_;refine Bl (D':=8589934591) 32 Y rfl rfl rfl Wh (Bf isAgg3 Y (by rfl)) ?_;refine Ag (D':=17179869183) 33 Y rfl rfl rfl (CF Y Y) ?_;refine Zi 34359738367 34 rfl (AL Y Y)<|Zi 68719476735 35 rfl (AJ Y) ?_;refine CS (t:=84) Y (fun k8=>?_) (fun k8=>?_)
        ·
         first|rw [decide_eq_true k8]|rw [k8]|skip
         refine Ag (D':=137438953471) 36 Y rfl rfl rfl (AZ (off:=11) underlying53 rfl rfl sizeOf3 Y) ?_;refine Bl (D':=274877906943) 37 Y rfl rfl rfl Wh (Bf isAgg3 Y (by rfl)) ?_;refine Ag (D':=549755813887) 38 Y rfl rfl rfl (CF Y Y) ?_;refine Zi 1099511627775 39 rfl (AL Y Y)<|Zi 2199023255551 40 rfl (AJ Y) ?_;refine CS (t:=89) Y (fun k9=>?_) (fun k9=>?_)
         ·
          first|rw [decide_eq_true k9]|rw [k9]|skip
          refine Ag (D':=4398046511103) 41 Y rfl rfl rfl (AJ Y) ?_;refine Ag (D':=8796093022207) 42 Y rfl rfl rfl (AU (j:=1) underlying60 sizeOf67 Y Y (by omega)) ?_;refine Bl (D':=17592186044415) 43 Y rfl rfl rfl Wh (AX (cs:=#[I4 h1.p,.string (str h1.ch),.string (str h1.st)]) isAgg67 sizeOf67 Y (hw1).1 (hw1).2) ?_;refine Ag (D':=35184372088831) 44 Y rfl rfl rfl (AJ Y) ?_;refine Ag (D':=70368744177663) 45 Y rfl rfl rfl (AU (j:=2) underlying60 sizeOf67 Y Y (by omega)) ?_;refine Bl (D':=140737488355327) 46 Y rfl rfl rfl Wh (AX (cs:=#[I4 h2.p,.string (str h2.ch),.string (str h2.st)]) isAgg67 sizeOf67 Y (hw2).1 (hw2).2) ?_;refine Bl (D':=281474976710655) 47 Y rfl rfl rfl Wh (AX (cs:=#[_,_,_,_,_,_,_,_,_,_,_,_,_,_,_]) isAgg53 sizeOf53 Y (by exact tQ _) (by exact Au rfl)) ?_;refine Yw 48 562949953421311 rfl (Zu [_,_,_] Y call26 Y rfl (Ju h1 h2 hzo1 f11 f12 f13 f14 f15 Tg zg)) ?_;rintro _ _ ⟨rfl,rfl⟩;rw [decide_eq_true ck1];refine Zi 1125899906842623 49 rfl (AL Y Y)<|Zi 2251799813685247 50 rfl (AJ Y) ?_;refine CP (t:=99) Y (fun k10=>?_) (fun k10=>?_)
          ·
           first|rw [decide_eq_true k10]|rw [k10]|skip
           refine Ag (D':=4503599627370495) 51 Y rfl rfl rfl (AJ Y) ?_;refine Ag (D':=9007199254740991) 52 Y rfl rfl rfl (AU (j:=1) underlying60 sizeOf67 Y Y (by omega)) ?_;refine Bl (D':=18014398509481983) 53 Y rfl rfl rfl Wh (AX (cs:=#[I4 h1.p,.string (str h1.ch),.string (str h1.st)]) isAgg67 sizeOf67 Y (hw1).1 (hw1).2) ?_;refine Ag (D':=36028797018963967) 54 Y rfl rfl rfl (AJ Y) ?_;refine Ag (D':=72057594037927935) 55 Y rfl rfl rfl (AU (j:=3) underlying60 sizeOf67 Y Y (by omega)) ?_;refine Bl (D':=144115188075855871) 56 Y rfl rfl rfl Wh (AX (cs:=#[I4 h3.p,.string (str h3.ch),.string (str h3.st)]) isAgg67 sizeOf67 Y (hw3).1 (hw3).2) ?_;refine Bl (D':=288230376151711743) 57 Y rfl rfl rfl Wh (AX (cs:=#[_,_,_,_,_,_,_,_,_,_,_,_,_,_,_]) isAgg53 sizeOf53 Y (by exact tQ _) (by exact Au rfl)) ?_;refine Yw 58 576460752303423487 rfl (Zu [_,_,_] Y call26 Y rfl (Ju h1 h3 hzo2 f21 f22 f23 f24 f25 Tg zg)) ?_;rintro _ _ ⟨rfl,rfl⟩;rw [decide_eq_true ck2];refine Zi 1152921504606846975 59 rfl (AL Y Y)<|Zi 2305843009213693951 60 rfl (AJ Y) ?_;refine CP (t:=109) Y (fun k11=>?_) (fun k11=>?_)
           ·
            first|rw [decide_eq_true k11]|rw [k11]|skip
            refine Ag (D':=4611686018427387903) 61 Y rfl rfl rfl (AJ Y) ?_;refine Ag (D':=9223372036854775807) 62 Y rfl rfl rfl (AU (j:=1) underlying60 sizeOf67 Y Y (by omega)) ?_;refine Bl (D':=18446744073709551615) 63 Y rfl rfl rfl Wh (AX (cs:=#[I4 h1.p,.string (str h1.ch),.string (str h1.st)]) isAgg67 sizeOf67 Y (hw1).1 (hw1).2) ?_;refine Ag (D':=36893488147419103231) 64 Y rfl rfl rfl (AJ Y) ?_;refine Ag (D':=73786976294838206463) 65 Y rfl rfl rfl (AU (j:=3) underlying60 sizeOf67 Y Y (by omega)) ?_;refine Bl (D':=147573952589676412927) 66 Y rfl rfl rfl Wh (AX (cs:=#[I4 h3.p,.string (str h3.ch),.string (str h3.st)]) isAgg67 sizeOf67 Y (hw3).1 (hw3).2) ?_;refine Bl (D':=295147905179352825855) 67 Y rfl rfl rfl Wh (AX (cs:=#[_,_,_,_,_,_,_,_,_,_,_,_,_,_,_]) isAgg53 sizeOf53 Y (by exact tQ _) (by exact Au rfl)) ?_;refine Yw 68 590295810358705651711 rfl (Zu [_,_,_] Y call26 Y rfl (Ju h1 h3 (z:=(⟨⟨z2.a.q,⟨z2.a.res.rows,1,z2.a.res.fnd⟩,z2.a.since,z2.a.until_,z2.a.base,z2.a.ranges,z2.a.recs⟩,z2.rp,z2.rc,z2.gp,z2.gc,z2.cp,z2.cc⟩:GG)) hzo2 f21 f22 f23 f24 f25 Tg zg)) ?_;rintro _ _ ⟨rfl,rfl⟩;rw [decide_eq_false ck3];refine Ag (D':=1180591620717411303423) 69 Y rfl rfl rfl (Ca Y) ?_;refine Zi 2361183241434822606847 70 rfl (AL Y Y)<|Zi 4722366482869645213695 71 rfl (AJ Y) ?_;refine CP (t:=120) Y (fun k12=>?_) (fun k12=>?_)
            ·
             first|rw [decide_eq_true k12]|rw [k12]|skip
             refine Ag (D':=9444732965739290427391) 72 Y rfl rfl rfl (AJ Y) ?_;refine Ag (D':=18889465931478580854783) 73 Y rfl rfl rfl (AU (j:=2) underlying60 sizeOf67 Y Y (by omega)) ?_;refine Bl (D':=37778931862957161709567) 74 Y rfl rfl rfl Wh (AX (cs:=#[I4 h2.p,.string (str h2.ch),.string (str h2.st)]) isAgg67 sizeOf67 Y (hw2).1 (hw2).2) ?_;refine Ag (D':=75557863725914323419135) 75 Y rfl rfl rfl (AJ Y) ?_;refine Ag (D':=151115727451828646838271) 76 Y rfl rfl rfl (AU (j:=3) underlying60 sizeOf67 Y Y (by omega)) ?_;refine Bl (D':=302231454903657293676543) 77 Y rfl rfl rfl Wh (AX (cs:=#[I4 h3.p,.string (str h3.ch),.string (str h3.st)]) isAgg67 sizeOf67 Y (hw3).1 (hw3).2) ?_;refine Bl (D':=604462909807314587353087) 78 Y rfl rfl rfl Wh (AX (cs:=#[_,_,_,_,_,_,_,_,_,_,_,_,_,_,_]) isAgg53 sizeOf53 Y (by exact tQ _) (by exact Au rfl)) ?_;refine Yw 79 1208925819614629174706175 rfl (Zu [_,_,_] Y call26 Y rfl (Ju h2 h3 hzo2 f21 f22 f23 f24 f25 Tg zg)) ?_;rintro _ _ ⟨rfl,rfl⟩;rw [decide_eq_false ck4];refine Ag (D':=2417851639229258349412351) 80 Y rfl rfl rfl (Ca Y) ?_;refine Zi 4835703278458516698824703 81 rfl (AL Y Y)<|Zi 9671406556917033397649407 82 rfl (AJ Y) ?_;refine CP (t:=131) Y (fun k13=>?_) (fun k13=>?_)
             ·
              first|rw [decide_eq_true k13]|rw [k13]|skip
              refine Bl (D':=19342813113834066795298815) 83 Y rfl rfl rfl Wh (AX (cs:=#[_,_,_,_,_,_,_,_,_,_,_,_,_,_,_]) isAgg53 sizeOf53 Y (by exact tQ _) (by exact Au rfl)) ?_;refine Bl (D':=38685626227668133590597631) 84 Y rfl rfl rfl Wh (AX (cs:=#[_,_,_,_,_,_,_,_,_,_,_,_,_,_,_]) isAgg53 sizeOf53 Y (by exact tQ _) (by exact Au rfl)) ?_;refine Yw 85 77371252455336267181195263 rfl (Zu [_,_] Y call28 Y rfl (mI hzo1 hzo1)) ?_;rintro _ _ ⟨rfl,rfl⟩;rw [decide_eq_true sm1];refine Zi 154742504910672534362390527 86 rfl (AL Y Y)<|Zi 309485009821345068724781055 87 rfl (AJ Y) ?_;refine CP (t:=136) Y (fun k14=>?_) (fun k14=>?_)
              ·
               first|rw [decide_eq_true k14]|rw [k14]|skip
               refine Bl (D':=618970019642690137449562111) 88 Y rfl rfl rfl Wh (AX (cs:=#[_,_,_,_,_,_,_,_,_,_,_,_,_,_,_]) isAgg53 sizeOf53 Y (by exact tQ _) (by exact Au rfl)) ?_;refine Bl (D':=1237940039285380274899124223) 89 Y rfl rfl rfl Wh (AX (cs:=#[_,_,_,_,_,_,_,_,_,_,_,_,_,_,_]) isAgg53 sizeOf53 Y (by exact tQ _) (by exact Au rfl)) ?_;refine Yw 90 2475880078570760549798248447 rfl (Zu [_,_] Y call28 Y rfl (mH hzo1 hzo2)) ?_;rintro _ _ ⟨rfl,rfl⟩;rw [decide_eq_false sm2];refine Ag (D':=4951760157141521099596496895) 91 Y rfl rfl rfl (Ca Y) ?_;refine Zi 9903520314283042199192993791 92 rfl (AL Y Y)<|Zi 19807040628566084398385987583 93 rfl (AJ Y) ?_;refine CP (t:=142) Y (fun k15=>?_) (fun k15=>?_)
               ·
                first|rw [decide_eq_true k15]|rw [k15]|skip
                refine Ag (D':=39614081257132168796771975167) 94 Y rfl rfl rfl (AJ Y) ?_;refine Ag (D':=79228162514264337593543950335) 95 Y rfl rfl rfl (C8 (n:=50) Y Y) ?_;refine Zi 158456325028528675187087900671 96 rfl (AL Y Y)<|Zi 316912650057057350374175801343 97 rfl (Ay Y)<|Am ?_;refine Zn [0] ?_;refine Zx<|A9 ?_;refine AB rfl results11 Y (by exact ⟨rfl,rfl⟩)
               first|rw [decide_eq_false k15]|rw [k15]|skip
               cases k15
              first|rw [decide_eq_false k14]|rw [k14]|skip
              cases k14
             first|rw [decide_eq_false k13]|rw [k13]|skip
             cases k13
            first|rw [decide_eq_false k12]|rw [k12]|skip
            cases k12
           first|rw [decide_eq_false k11]|rw [k11]|skip
           cases k11
          first|rw [decide_eq_false k10]|rw [k10]|skip
          cases k10
         first|rw [decide_eq_false k9]|rw [k9]|skip
         exact absurd hu2 k9
        first|rw [decide_eq_false k8]|rw [k8]|skip
        exact absurd hs2 k8
       first|rw [decide_eq_false k7]|rw [k7]|skip
       exact absurd hv2 k7
      first|rw [decide_eq_false k6]|rw [k6]|skip
      exact absurd hu1 k6
     first|rw [decide_eq_false k5]|rw [k5]|skip
     exact absurd hs1 k5
    first|rw [decide_eq_false k4]|rw [k4]|skip
    exact absurd hv1 k4
   first|rw [decide_eq_false k3]|rw [k3]|skip
   cases k3
  first|rw [decide_eq_false k2]|rw [k2]|skip
  cases k2
 first|rw [decide_eq_false k1]|rw [k1]|skip
 cases k1
end Go.Proofs.YtkdgffcfmgmemaaGreatDoor
