/- Sane. -/
/- The law ProofLater. -/
/- A case of chapter 11 as an argument. -/
/- ProofLater as its card wants it. -/
/- The facts that a card wants, one by one. -/
import Derived.Test.YtkdgffcfmgmemaaGreatDoorEz
import Derived.Test.YtkdgffcfmgmemaaGreatDoorPz3
import Derived.Test.YtkdgffcfmgmemaaGreatDoorTk1
import Derived.JoinedOf
set_option linter.unusedVariables false
set_option linter.unusedSimpArgs false
namespace Go.Proofs.YtkdgffcfmgmemaaGreatDoor
open Go.Proofs.Tryz
open Go Go.RowKit Gw
set_option maxRecDepth 100000
attribute [local irreducible] Gw.At Gw.Nx Gw.Ops
set_option maxHeartbeats 4000000 in
theorem oU(Tg:TypeId)(zg:Nat×Nat):Au Tryz.prog 11 #[] [[(1,.cells (Cw.map Bn).toArray Tg zg)]] (.bool true):=by
 have hml:=mL;refine Se func11 ntmps11 [] ?_;intro u R;refine Zq<|Zg<|Za Y<|Z0<|Zx<|Zq<|Zg<|Zc [] Y call42 Y rfl (eP) ?_;rintro _ _ ⟨_,⟨l,p,cap,M,hex,hRI,rfl,rfl⟩,rfl⟩;have hlen:=hex.len
 obtain ⟨L1,hL1⟩:∃L,L=EM (Bb (l.take 1)) exQ:=⟨_,rfl⟩;refine Za Y<|Z0<|Zx<|Zq<|Zg<|Zv (BJ (vs:=[(0,I4 3),(2,I4 1),(3,I4 10),(4,I4 19)]) (cs:=#[I4 3,I4 0,I4 1,I4 10,I4 19,I4 0,I4 0]) Y (AX (pl:=#[(0,1),(1,1),(2,1),(3,1),(4,1),(5,1),(6,1)]) zeroValue30 underlying30 (fun _=>by kernel_rfl) (by kernel_rfl))) ?_;refine Ze (Al zeroValue30 #[_,_,_,_,_,_,_]) ?_;rintro _ _ ⟨bq,rfl,rfl⟩;refine Xe (Xw sizeOf30 #[I4 3,I4 0,I4 1,I4 10,I4 19,I4 0,I4 0]) ?_;refine Z0<|Zx<|Zq<|Zg<|Zm Y<|Zo Wh (Ab (cs:=#[_,_,_,_,_,_,_]) isAgg30 sizeOf30 Y Wb (by exact Av rfl)) ?_;refine Zc [_,_,_,_] Y call29 Y rfl (PZ hRI hex.ok (by omega) 1 2 (by decide) (by omega) exQ Fv Tg zg) ?_;rintro _ _ ⟨_,⟨z1,E1,t1,pg1,cg1,hz1,hR1,rfl,rfl⟩,rfl⟩;obtain ⟨x1,hx1,hv1,hs1,hu1⟩:=hex.one;obtain ⟨rfl,hb1,hzo1⟩:t1=true∧DX l 1 2 exQ=some z1.a∧z1.ok (E1++M):=by rcases hz1 with h9|⟨_,h9⟩;exact h9;rw [hx1]at h9;cases h9
 obtain rfl:x1=z1.a:=by rw [hx1]at hb1;injection hb1
 rw [←hL1]at hR1⊢;obtain ⟨f11,f12,f13,f14,f15⟩:=PD hex.ok (by omega) (by decide) (by omega) Fv hb1;have ck1:=PE hex.ok (by omega) (by decide:1≤2) (by omega) Fv hb1
 refine Zm Y<|Zd Y rfl<|Zd Y rfl<|Zd Y rfl<|Ze (Al zeroValue57 #[_,_,_,_,_,_,_,_,_,_]) ?_;rintro _ _ ⟨b3,rfl,rfl⟩;refine Ze (Al zeroValue53 #[_,_,_,_,_,_,_,_,_,_,_,_,_,_,_]) ?_;rintro _ _ ⟨b4,rfl,rfl⟩;refine Xe (Xw sizeOf57 #[I4 3,I4 0,I4 1,I4 10,I4 19,I4 0,I4 0,I4 0,I4 1,.slice pg1 L1.length cg1]) ?_;refine Xe (Xw sizeOf53 #[I4 z1.a.q.kd,I4 z1.a.q.tb,I4 z1.a.q.cl,I4 z1.a.q.lo,I4 z1.a.q.hi,I4 z1.a.q.bq,I4 z1.a.q.ot,.slice z1.rp z1.a.res.rows.length z1.rc,I4 z1.a.res.val,.bool z1.a.res.fnd,I4 z1.a.since,I4 z1.a.until_,I4 z1.a.base,.slice z1.gp z1.a.ranges.length z1.gc,.slice z1.cp z1.a.recs.length z1.cc]) ?_;refine Za Y<|Z0<|Zn [1,2,3,4,5] ?_;refine Zx<|Zq<|Zg<|Zm Y<|Zo Wh (Ab (cs:=#[_,_,_,_,_,_,_]) isAgg30 sizeOf30 Y Wb (by exact Av rfl)) ?_;refine Zc [_,_,_,_] Y call29 Y rfl (PZ hRI hex.ok (by omega) 1 3 (by decide) (by omega) exQ Fv Tg zg) ?_;rintro _ _ ⟨_,⟨z2,E2,t2,pg2,cg2,hz2,hR2,rfl,rfl⟩,rfl⟩;obtain ⟨x2,hx2,hv2,hs2,hu2⟩:=hex.two;obtain ⟨rfl,hb2,hzo2⟩:t2=true∧DX l 1 3 exQ=some z2.a∧z2.ok (E2++M):=by rcases hz2 with h9|⟨_,h9⟩;exact h9;rw [hx2]at h9;cases h9
 obtain rfl:x2=z2.a:=by rw [hx2]at hb2;injection hb2
 rw [←hL1]at hR2⊢;obtain ⟨f21,f22,f23,f24,f25⟩:=PD hex.ok (by omega) (by decide) (by omega) Fv hb2;have ck2:=PE hex.ok (by omega) (by decide:1≤3) (by omega) Fv hb2
 refine Zm Y<|Zd Y rfl<|Zd Y rfl<|Zd Y rfl<|Ze (Al zeroValue57 #[_,_,_,_,_,_,_,_,_,_]) ?_;rintro _ _ ⟨b6,rfl,rfl⟩;refine Ze (Al zeroValue53 #[_,_,_,_,_,_,_,_,_,_,_,_,_,_,_]) ?_;rintro _ _ ⟨b7,rfl,rfl⟩;refine Xe (Xw sizeOf57 #[I4 3,I4 0,I4 1,I4 10,I4 19,I4 0,I4 0,I4 0,I4 1,.slice pg2 L1.length cg2]) ?_;refine Xe (Xw sizeOf53 #[I4 z2.a.q.kd,I4 z2.a.q.tb,I4 z2.a.q.cl,I4 z2.a.q.lo,I4 z2.a.q.hi,I4 z2.a.q.bq,I4 z2.a.q.ot,.slice z2.rp z2.a.res.rows.length z2.rc,I4 z2.a.res.val,.bool z2.a.res.fnd,I4 z2.a.since,I4 z2.a.until_,I4 z2.a.base,.slice z2.gp z2.a.ranges.length z2.gc,.slice z2.cp z2.a.recs.length z2.cc]) ?_;refine Za Y<|Z0<|Zx<|Zb [3,1,4,5,7,8] ?_;refine CV (e0:=[(3,_)]) (H0:=[E1,M]) (fun e H=>(True)∧e=[(10,.bool false)]∧H=[E1,M]) Wp ?hx_1 ?hy_1
 case hx_1=>
  refine BK (n:=10) (0::0::2::7::15::31::31::0::191::511::[]) 392 (by kernel_rfl) (by kernel_rfl) rfl ?_;refine DY (D':=1) 0 rfl rfl rfl Wh (Ab (cs:=#[_,_,_,_,_,_,_,_,_,_]) isAgg57 sizeOf57 Y (by exact tJ _) (by exact Av rfl)) ?_;refine Zi 3 1 rfl (AJ Y) ?_;refine Zi 7 2 rfl (Bz (l:=2) underlying28 sizeOf73 Y Y (by omega)) ?_;refine Zz (l:=[3,7]) ?_;refine Zy 7 15 [0] [false] [] rfl Y rfl rfl rfl rfl (Zw [_,_] Y call18 Y rfl (Na exQ 0 1 (by decide) hR1 (by rw [hL1];have:=Ld (Bb (l.take 1)) exQ;have:=Ff hex.ok (by omega) (by omega:1≤l.length) exQ;omega) (by rw [hL1];exact FJ (hex.ok.rows 1 (by omega)).1 (hex.ok.rows 1 (by omega)).2 (hex.ok.rowsOk 1 (by omega)) Fv (Ff hex.ok (by omega) (by omega) exQ)) (G9 (N9 (a:=2) hRI (by omega) (tJ _)) (fun c hc=>tQ E1 hc)) (Kk hex.ok 2 l.length))) ?hk_2 DD ?hl_2
  case hk_2=>
   rintro _ _ ⟨_,⟨z9,s9,t9,hz9,rfl,rfl⟩,rfl⟩;refine ⟨Ad,?_⟩;obtain rfl:t9=false:=by rcases hz9 with⟨_,h9,_⟩|⟨h9,_⟩;rw [hL1,show(l.drop 2).take (l.length -2)=DV l 2 l.length from rfl,hex.third]at h9;cases h9;exact h9
   refine Zi 31 4 rfl (AJ Y)<|Zi 63 5 rfl (Cc Y rfl)<|Zi 127 6 rfl (Cc Y rfl)<|Zz (l:=[7]) ?_;refine Zy 0 255 [] [] [] rfl Y rfl rfl rfl rfl (Al zeroValue53 #[_,_,_,_,_,_,_,_,_,_,_,_,_,_,_]) ?hk_3 (fun _ _ h=>h.elim) ?hl_3
   case hk_3=>
    rintro _ _ ⟨b9,rfl,rfl⟩;refine ⟨Ad,?_⟩;refine Yw 8 511 rfl (Xw sizeOf53 #[I4 z9.a.q.kd,I4 z9.a.q.tb,I4 z9.a.q.cl,I4 z9.a.q.lo,I4 z9.a.q.hi,I4 z9.a.q.bq,I4 z9.a.q.ot,.slice z9.rp z9.a.res.rows.length z9.rc,I4 z9.a.res.val,.bool z9.a.res.fnd,I4 z9.a.since,I4 z9.a.until_,I4 z9.a.base,.slice z9.gp z9.a.ranges.length z9.gc,.slice z9.cp z9.a.recs.length z9.cc]) ?_;rintro _ _ ⟨rfl,rfl⟩;refine Zi 1023 9 rfl (BA Y)<|Am ?_;refine Zn [10,1,4,5,7,8] ?_;refine BB (e':=[(10,_)]) (by exact ⟨trivial,rfl,rfl⟩)
   exact Aw
  refine Zy 0 135 [0] [true] [(0,(_,_))] rfl Y rfl rfl rfl rfl (Al zeroValue53 #[_,_,_,_,_,_,_,_,_,_,_,_,_,_,_]) ?hk_6 (fun _ _ h=>h.elim) ?hl_6
  case hk_6=>
   rintro _ _ ⟨b9,rfl,rfl⟩;refine ⟨Zk (Ad),?_⟩;refine Zz (l:=[3]) ?_;refine Zy 7 143 [0] [false] [] rfl Y rfl rfl rfl rfl (Zw [_,_] Y call18 Y rfl (Na exQ 0 1 (by decide) hR1 (by rw [hL1];have:=Ld (Bb (l.take 1)) exQ;have:=Ff hex.ok (by omega) (by omega:1≤l.length) exQ;omega) (by rw [hL1];exact FJ (hex.ok.rows 1 (by omega)).1 (hex.ok.rows 1 (by omega)).2 (hex.ok.rowsOk 1 (by omega)) Fv (Ff hex.ok (by omega) (by omega) exQ)) (G9 (N9 (a:=2) hRI (by omega) (tJ _)) (fun c hc=>tQ E1 hc)) (Kk hex.ok 2 l.length))) ?hk_7 DD ?hl_7
   case hk_7=>
    rintro _ _ ⟨_,⟨z9,s9,t9,hz9,rfl,rfl⟩,rfl⟩;refine ⟨Ad,?_⟩;obtain rfl:t9=false:=by rcases hz9 with⟨_,h9,_⟩|⟨h9,_⟩;rw [hL1,show(l.drop 2).take (l.length -2)=DV l 2 l.length from rfl,hex.third]at h9;cases h9;exact h9
    refine Zi 159 4 rfl (AJ Y)<|Zi 191 5 rfl (Cc Y rfl)<|Zi 255 6 rfl (Cc Y rfl)<|Zz (l:=[8]) ?_;refine Zy 191 511 [] [] [] rfl Y rfl rfl rfl rfl (Xw sizeOf53 #[I4 z9.a.q.kd,I4 z9.a.q.tb,I4 z9.a.q.cl,I4 z9.a.q.lo,I4 z9.a.q.hi,I4 z9.a.q.bq,I4 z9.a.q.ot,.slice z9.rp z9.a.res.rows.length z9.rc,I4 z9.a.res.val,.bool z9.a.res.fnd,I4 z9.a.since,I4 z9.a.until_,I4 z9.a.base,.slice z9.gp z9.a.ranges.length z9.gc,.slice z9.cp z9.a.recs.length z9.cc]) ?hk_8 (fun _ _ h=>h.elim) ?hl_8
    case hk_8=>
     rintro _ _ ⟨rfl,rfl⟩;refine ⟨Ad,?_⟩;refine Zi 1023 9 rfl (BA Y)<|Am ?_;refine Zn [10,1,4,5,7,8] ?_;refine BB (e':=[(10,_)]) (by exact ⟨trivial,rfl,rfl⟩)
    exact Aw
   exact Aw
  exact Aw
 rintro _ _ ⟨_,rfl,rfl⟩;refine Zq<|Zg<|Zm Y<|Zc [_] Y call22 Y rfl (bL hRI hex.ok (by omega)) ?_;rintro _ _ ⟨_,⟨sh,hsh,rfl⟩,rfl⟩;rw [hlen]at hsh;obtain ⟨gh,ch,curh,zh,rfl,rfl,hw⟩:=jb hsh (by decide);have hw1:=hw 1 (by decide)
 have hw2:=hw 2 (by decide);have hw3:=hw 3 (by decide)
 have hp2:=(J3 hex.ok (by omega) 2 (by omega)).2.1;obtain ⟨h1,hh1⟩:∃h,h=EQ l 1:=⟨_,rfl⟩;obtain ⟨h2,hh2⟩:∃h,h=EQ l 2:=⟨_,rfl⟩;obtain ⟨h3,hh3⟩:∃h,h=EQ l 3:=⟨_,rfl⟩;rw [←hh1]at hw1;rw [←hh2]at hw2;rw [←hh3]at hw3;rw [←hh1,←hh2]at ck1;rw [←hh1,←hh3]at ck2;rw [←hh2]at hp2;obtain ⟨e1,_⟩:=FN hex.ok (by omega) (by decide:1≤3) (by omega) Fv hb2;have hba2:z2.a.base=1:=by rw [e1];rfl
 have ck3:¬IG h1 h3 (⟨⟨z2.a.q,⟨z2.a.res.rows,1,z2.a.res.fnd⟩,z2.a.since,z2.a.until_,z2.a.base,z2.a.ranges,z2.a.recs⟩,z2.rp,z2.rc,z2.gp,z2.gc,z2.cp,z2.cc⟩:KT).a:=fun h9=>by have h8:=(YX hex.ok (by omega) (by decide:1≤3) (by omega) Fv hb2 (y:=(⟨⟨z2.a.q,⟨z2.a.res.rows,1,z2.a.res.fnd⟩,z2.a.since,z2.a.until_,z2.a.base,z2.a.ranges,z2.a.recs⟩,z2.rp,z2.rc,z2.gp,z2.gc,z2.cp,z2.cc⟩:KT).a) ⟨rfl,rfl,rfl,rfl⟩ (u:=h3) (by rw [←hh1];exact h9)).1.2.2.2.2.1;have h7:=congrArg CL.val h8;rw [hv2]at h7;revert h7;show¬(1:Int)=2;decide
 have ck4:¬IG h2 h3 z2.a:=fun h9=>by have h8:=h9.1;rw [hp2,hba2]at h8;revert h8;decide
 have sm1:z1.a.eqv z1.a:=z1.a.eqv_refl;have sm2:¬z1.a.eqv z2.a:=fun h9=>by have h8:=h9.2.1;rw [hs1,hs2]at h8;revert h8;decide
 refine Za Y<|Z0<|Zx<|Zq<|Zg<|Zo Wh (Ab (cs:=#[I4 z2.a.q.kd,I4 z2.a.q.tb,I4 z2.a.q.cl,I4 z2.a.q.lo,I4 z2.a.q.hi,I4 z2.a.q.bq,I4 z2.a.q.ot,.slice z2.rp z2.a.res.rows.length z2.rc,I4 z2.a.res.val,.bool z2.a.res.fnd,I4 z2.a.since,I4 z2.a.until_,I4 z2.a.base,.slice z2.gp z2.a.ranges.length z2.gc,.slice z2.cp z2.a.recs.length z2.cc]) isAgg53 sizeOf53 Y Wb (by exact Av rfl)) ?_;refine Ze (Al zeroValue53 #[_,_,_,_,_,_,_,_,_,_,_,_,_,_,_]) ?_;rintro _ _ ⟨bc,rfl,rfl⟩;refine Xe (Xw sizeOf53 #[I4 z2.a.q.kd,I4 z2.a.q.tb,I4 z2.a.q.cl,I4 z2.a.q.lo,I4 z2.a.q.hi,I4 z2.a.q.bq,I4 z2.a.q.ot,.slice z2.rp z2.a.res.rows.length z2.rc,I4 z2.a.res.val,.bool z2.a.res.fnd,I4 z2.a.since,I4 z2.a.until_,I4 z2.a.base,.slice z2.gp z2.a.ranges.length z2.gc,.slice z2.cp z2.a.recs.length z2.cc]) ?_;refine Z0<|Zx<|Zq<|Zg<|Zh 7 underlying53 rfl rfl sizeOf51 Y<|Zv (BH (off:=1) underlying51 rfl rfl sizeOf3 Y)<|Xe (Zs sizeOf3 Y Y rfl (hc:=by exact (rfl:_=(#[I4 z2.a.q.kd,I4 z2.a.q.tb,I4 z2.a.q.cl,I4 z2.a.q.lo,I4 z2.a.q.hi,I4 z2.a.q.bq,I4 z2.a.q.ot,.slice z2.rp z2.a.res.rows.length z2.rc,I4 1,.bool z2.a.res.fnd,I4 z2.a.since,I4 z2.a.until_,I4 z2.a.base,.slice z2.gp z2.a.ranges.length z2.gc,.slice z2.cp z2.a.recs.length z2.cc]:Array Value))) (hi:=by first|omega|decide|(simp;done))) ?_;refine Z0<|Zx<|Zq<|Zg<|Zc [] Y call43 Y rfl (gL) ?_;rintro _ _ ⟨_,⟨sp9,mb9,rfl,rfl⟩,rfl⟩;refine Zv (BJ (vs:=[]) (cs:=#[I4 0,I4 0,I4 0,I4 0,I4 0,I4 0,I4 0]) Y (AX (pl:=#[(0,1),(1,1),(2,1),(3,1),(4,1),(5,1),(6,1)]) zeroValue30 underlying30 (fun _=>by kernel_rfl) (by kernel_rfl))) ?_;refine Xr [_,_] Y call15 Y rfl (jF (s:=[]) ⟨0,0,0,0,0,0,0⟩ fC) ?_;refine Zm Y<|Zd Y rfl<|Zd Y rfl<|Za Y<|Za Y<|Z0<|Zn [4,5,7,8,10,11,12,14] ?_
 refine Zx<|Zq<|BK (n:=98) (0::1::3::7::15::31::63::127::255::511::1023::2047::4095::8191::16383::32767::65535::131071::262143::524287::1048575::2097151::4194303::8388607::16777215::33554431::67108863::134217727::268435455::536870911::1073741823::2147483647::4294967295::8589934591::17179869183::34359738367::68719476735::137438953471::274877906943::549755813887::1099511627775::2199023255551::4398046511103::8796093022207::2199023255551::19791209299967::54975581388799::2199023255551::281474976710655::562949953421311::1125899906842623::2251799813685247::4503599627370495::9007199254740991::2251799813685247::20266198323167231::56294995342131199::2251799813685247::288230376151711743::576460752303423487::1152921504606846975::2305843009213693951::4611686018427387903::9223372036854775807::2305843009213693951::20752587082923245567::57646075230342348799::2305843009213693951::295147905179352825855::590295810358705651711::1180591620717411303423::2361183241434822606847::4722366482869645213695::9444732965739290427391::18889465931478580854783::4722366482869645213695::42501298345826806923263::118059162071741130342399::4722366482869645213695::604462909807314587353087::1208925819614629174706175::2417851639229258349412351::4835703278458516698824703::9671406556917033397649407::9671406556917033397649407::38685626227668133590597631::77371252455336267181195263::154742504910672534362390527::309485009821345068724781055::309485009821345068724781055::1237940039285380274899124223::2475880078570760549798248447::4951760157141521099596496895::9903520314283042199192993791::19807040628566084398385987583::39614081257132168796771975167::79228162514264337593543950335::158456325028528675187087900671::[]) 1277230423859272753558323200 (by kernel_rfl) (by kernel_rfl) rfl ?_;refine Zi 1 0 rfl (AJ Y)<|Zi 3 1 rfl (AJ Y) ?_;refine CS (t:=50) Y (fun k1=>?_) (fun k1=>?_)
 ·
  first|rw [decide_eq_true k1]|rw [k1]|skip
  refine Ah (D':=7) 2 Y rfl rfl rfl (AJ Y) ?_;refine Zi 15 3 rfl (AL Y Y)<|Zi 31 4 rfl (AJ Y) ?_;refine CS (t:=53) Y (fun k2=>?_) (fun k2=>?_)
  ·
   first|rw [decide_eq_true k2]|rw [k2]|skip
   refine Ah (D':=63) 5 Y rfl rfl rfl (AJ Y) ?_;refine Ah (D':=127) 6 Y rfl rfl rfl (Ca Y) ?_;refine Zi 255 7 rfl (AL Y Y)<|Zi 511 8 rfl (AJ Y) ?_;refine CS (t:=57) Y (fun k3=>?_) (fun k3=>?_)
   ·
    first|rw [decide_eq_true k3]|rw [k3]|skip
    refine Ah (D':=1023) 9 Y rfl rfl rfl (Aa (off:=7) underlying53 rfl rfl sizeOf51 Y) ?_;refine Ah (D':=2047) 10 Y rfl rfl rfl (BH (off:=1) underlying51 rfl rfl sizeOf3 Y) ?_;refine Bj (D':=4095) 11 Y rfl rfl rfl Wh (Bf isAgg3 Y (by rfl)) ?_;refine Ah (D':=8191) 12 Y rfl rfl rfl (CE Y Y) ?_;refine Zi 16383 13 rfl (AL Y Y)<|Zi 32767 14 rfl (AJ Y) ?_;refine CQ (t:=63) Y (fun k4=>?_) (fun k4=>?_)
    ·
     first|rw [decide_eq_true k4]|rw [k4]|skip
     refine Ah (D':=65535) 15 Y rfl rfl rfl (Aa (off:=10) underlying53 rfl rfl sizeOf3 Y) ?_;refine Bj (D':=131071) 16 Y rfl rfl rfl Wh (Bf isAgg3 Y (by rfl)) ?_;refine Ah (D':=262143) 17 Y rfl rfl rfl (CE Y Y) ?_;refine Zi 524287 18 rfl (AL Y Y)<|Zi 1048575 19 rfl (AJ Y) ?_;refine CQ (t:=68) Y (fun k5=>?_) (fun k5=>?_)
     ·
      first|rw [decide_eq_true k5]|rw [k5]|skip
      refine Ah (D':=2097151) 20 Y rfl rfl rfl (Aa (off:=11) underlying53 rfl rfl sizeOf3 Y) ?_;refine Bj (D':=4194303) 21 Y rfl rfl rfl Wh (Bf isAgg3 Y (by rfl)) ?_;refine Ah (D':=8388607) 22 Y rfl rfl rfl (CE Y Y) ?_;refine Zi 16777215 23 rfl (AL Y Y)<|Zi 33554431 24 rfl (AJ Y) ?_;refine CQ (t:=73) Y (fun k6=>?_) (fun k6=>?_)
      ·
       first|rw [decide_eq_true k6]|rw [k6]|skip
       refine Ah (D':=67108863) 25 Y rfl rfl rfl (Aa (off:=7) underlying53 rfl rfl sizeOf51 Y) ?_;refine Ah (D':=134217727) 26 Y rfl rfl rfl (BH (off:=1) underlying51 rfl rfl sizeOf3 Y) ?_;refine Bj (D':=268435455) 27 Y rfl rfl rfl Wh (Bf isAgg3 Y (by rfl)) ?_;refine Ah (D':=536870911) 28 Y rfl rfl rfl (CE Y Y) ?_;refine Zi 1073741823 29 rfl (AL Y Y)<|Zi 2147483647 30 rfl (AJ Y) ?_;refine CQ (t:=79) Y (fun k7=>?_) (fun k7=>?_)
       ·
        first|rw [decide_eq_true k7]|rw [k7]|skip
        refine Ah (D':=4294967295) 31 Y rfl rfl rfl (Aa (off:=10) underlying53 rfl rfl sizeOf3 Y) ?_;refine Bj (D':=8589934591) 32 Y rfl rfl rfl Wh (Bf isAgg3 Y (by rfl)) ?_;refine Ah (D':=17179869183) 33 Y rfl rfl rfl (CE Y Y) ?_;refine Zi 34359738367 34 rfl (AL Y Y)<|Zi 68719476735 35 rfl (AJ Y) ?_;refine CQ (t:=84) Y (fun k8=>?_) (fun k8=>?_)
        ·
         first|rw [decide_eq_true k8]|rw [k8]|skip
         refine Ah (D':=137438953471) 36 Y rfl rfl rfl (Aa (off:=11) underlying53 rfl rfl sizeOf3 Y) ?_;refine Bj (D':=274877906943) 37 Y rfl rfl rfl Wh (Bf isAgg3 Y (by rfl)) ?_;refine Ah (D':=549755813887) 38 Y rfl rfl rfl (CE Y Y) ?_;refine Zi 1099511627775 39 rfl (AL Y Y)<|Zi 2199023255551 40 rfl (AJ Y) ?_;refine CQ (t:=89) Y (fun k9=>?_) (fun k9=>?_)
         ·
          first|rw [decide_eq_true k9]|rw [k9]|skip
          refine Ah (D':=4398046511103) 41 Y rfl rfl rfl (AJ Y) ?_;refine Ah (D':=8796093022207) 42 Y rfl rfl rfl (AZ (j:=1) underlying60 sizeOf67 Y Y (by omega)) ?_;refine Bj (D':=17592186044415) 43 Y rfl rfl rfl Wh (Ab (cs:=#[I4 h1.p,.string (str h1.ch),.string (str h1.st)]) isAgg67 sizeOf67 Y (hw1).1 (hw1).2) ?_;refine Ah (D':=35184372088831) 44 Y rfl rfl rfl (AJ Y) ?_;refine Ah (D':=70368744177663) 45 Y rfl rfl rfl (AZ (j:=2) underlying60 sizeOf67 Y Y (by omega)) ?_;refine Bj (D':=140737488355327) 46 Y rfl rfl rfl Wh (Ab (cs:=#[I4 h2.p,.string (str h2.ch),.string (str h2.st)]) isAgg67 sizeOf67 Y (hw2).1 (hw2).2) ?_;refine Bj (D':=281474976710655) 47 Y rfl rfl rfl Wh (Ab (cs:=#[_,_,_,_,_,_,_,_,_,_,_,_,_,_,_]) isAgg53 sizeOf53 Y (by exact tJ _) (by exact Av rfl)) ?_;refine Yw 48 562949953421311 rfl (Zu [_,_,_] Y call26 Y rfl (NZ h1 h2 hzo1 f11 f12 f13 f14 f15 Tg zg)) ?_;rintro _ _ ⟨rfl,rfl⟩;rw [decide_eq_true ck1];refine Zi 1125899906842623 49 rfl (AL Y Y)<|Zi 2251799813685247 50 rfl (AJ Y) ?_;refine CS (t:=99) Y (fun k10=>?_) (fun k10=>?_)
          ·
           first|rw [decide_eq_true k10]|rw [k10]|skip
           refine Ah (D':=4503599627370495) 51 Y rfl rfl rfl (AJ Y) ?_;refine Ah (D':=9007199254740991) 52 Y rfl rfl rfl (AZ (j:=1) underlying60 sizeOf67 Y Y (by omega)) ?_;refine Bj (D':=18014398509481983) 53 Y rfl rfl rfl Wh (Ab (cs:=#[I4 h1.p,.string (str h1.ch),.string (str h1.st)]) isAgg67 sizeOf67 Y (hw1).1 (hw1).2) ?_;refine Ah (D':=36028797018963967) 54 Y rfl rfl rfl (AJ Y) ?_;refine Ah (D':=72057594037927935) 55 Y rfl rfl rfl (AZ (j:=3) underlying60 sizeOf67 Y Y (by omega)) ?_;refine Bj (D':=144115188075855871) 56 Y rfl rfl rfl Wh (Ab (cs:=#[I4 h3.p,.string (str h3.ch),.string (str h3.st)]) isAgg67 sizeOf67 Y (hw3).1 (hw3).2) ?_;refine Bj (D':=288230376151711743) 57 Y rfl rfl rfl Wh (Ab (cs:=#[_,_,_,_,_,_,_,_,_,_,_,_,_,_,_]) isAgg53 sizeOf53 Y (by exact tJ _) (by exact Av rfl)) ?_;refine Yw 58 576460752303423487 rfl (Zu [_,_,_] Y call26 Y rfl (NZ h1 h3 hzo2 f21 f22 f23 f24 f25 Tg zg)) ?_;rintro _ _ ⟨rfl,rfl⟩;rw [decide_eq_true ck2];refine Zi 1152921504606846975 59 rfl (AL Y Y)<|Zi 2305843009213693951 60 rfl (AJ Y) ?_;refine CS (t:=109) Y (fun k11=>?_) (fun k11=>?_)
           ·
            first|rw [decide_eq_true k11]|rw [k11]|skip
            refine Ah (D':=4611686018427387903) 61 Y rfl rfl rfl (AJ Y) ?_;refine Ah (D':=9223372036854775807) 62 Y rfl rfl rfl (AZ (j:=1) underlying60 sizeOf67 Y Y (by omega)) ?_;refine Bj (D':=18446744073709551615) 63 Y rfl rfl rfl Wh (Ab (cs:=#[I4 h1.p,.string (str h1.ch),.string (str h1.st)]) isAgg67 sizeOf67 Y (hw1).1 (hw1).2) ?_;refine Ah (D':=36893488147419103231) 64 Y rfl rfl rfl (AJ Y) ?_;refine Ah (D':=73786976294838206463) 65 Y rfl rfl rfl (AZ (j:=3) underlying60 sizeOf67 Y Y (by omega)) ?_;refine Bj (D':=147573952589676412927) 66 Y rfl rfl rfl Wh (Ab (cs:=#[I4 h3.p,.string (str h3.ch),.string (str h3.st)]) isAgg67 sizeOf67 Y (hw3).1 (hw3).2) ?_;refine Bj (D':=295147905179352825855) 67 Y rfl rfl rfl Wh (Ab (cs:=#[_,_,_,_,_,_,_,_,_,_,_,_,_,_,_]) isAgg53 sizeOf53 Y (by exact tJ _) (by exact Av rfl)) ?_;refine Yw 68 590295810358705651711 rfl (Zu [_,_,_] Y call26 Y rfl (NZ h1 h3 (z:=(⟨⟨z2.a.q,⟨z2.a.res.rows,1,z2.a.res.fnd⟩,z2.a.since,z2.a.until_,z2.a.base,z2.a.ranges,z2.a.recs⟩,z2.rp,z2.rc,z2.gp,z2.gc,z2.cp,z2.cc⟩:KT)) hzo2 f21 f22 f23 f24 f25 Tg zg)) ?_;rintro _ _ ⟨rfl,rfl⟩;rw [decide_eq_false ck3];refine Ah (D':=1180591620717411303423) 69 Y rfl rfl rfl (Ca Y) ?_;refine Zi 2361183241434822606847 70 rfl (AL Y Y)<|Zi 4722366482869645213695 71 rfl (AJ Y) ?_;refine CS (t:=120) Y (fun k12=>?_) (fun k12=>?_)
            ·
             first|rw [decide_eq_true k12]|rw [k12]|skip
             refine Ah (D':=9444732965739290427391) 72 Y rfl rfl rfl (AJ Y) ?_;refine Ah (D':=18889465931478580854783) 73 Y rfl rfl rfl (AZ (j:=2) underlying60 sizeOf67 Y Y (by omega)) ?_;refine Bj (D':=37778931862957161709567) 74 Y rfl rfl rfl Wh (Ab (cs:=#[I4 h2.p,.string (str h2.ch),.string (str h2.st)]) isAgg67 sizeOf67 Y (hw2).1 (hw2).2) ?_;refine Ah (D':=75557863725914323419135) 75 Y rfl rfl rfl (AJ Y) ?_;refine Ah (D':=151115727451828646838271) 76 Y rfl rfl rfl (AZ (j:=3) underlying60 sizeOf67 Y Y (by omega)) ?_;refine Bj (D':=302231454903657293676543) 77 Y rfl rfl rfl Wh (Ab (cs:=#[I4 h3.p,.string (str h3.ch),.string (str h3.st)]) isAgg67 sizeOf67 Y (hw3).1 (hw3).2) ?_;refine Bj (D':=604462909807314587353087) 78 Y rfl rfl rfl Wh (Ab (cs:=#[_,_,_,_,_,_,_,_,_,_,_,_,_,_,_]) isAgg53 sizeOf53 Y (by exact tJ _) (by exact Av rfl)) ?_;refine Yw 79 1208925819614629174706175 rfl (Zu [_,_,_] Y call26 Y rfl (NZ h2 h3 hzo2 f21 f22 f23 f24 f25 Tg zg)) ?_;rintro _ _ ⟨rfl,rfl⟩;rw [decide_eq_false ck4];refine Ah (D':=2417851639229258349412351) 80 Y rfl rfl rfl (Ca Y) ?_;refine Zi 4835703278458516698824703 81 rfl (AL Y Y)<|Zi 9671406556917033397649407 82 rfl (AJ Y) ?_;refine CS (t:=131) Y (fun k13=>?_) (fun k13=>?_)
             ·
              first|rw [decide_eq_true k13]|rw [k13]|skip
              refine Bj (D':=19342813113834066795298815) 83 Y rfl rfl rfl Wh (Ab (cs:=#[_,_,_,_,_,_,_,_,_,_,_,_,_,_,_]) isAgg53 sizeOf53 Y (by exact tJ _) (by exact Av rfl)) ?_;refine Bj (D':=38685626227668133590597631) 84 Y rfl rfl rfl Wh (Ab (cs:=#[_,_,_,_,_,_,_,_,_,_,_,_,_,_,_]) isAgg53 sizeOf53 Y (by exact tJ _) (by exact Av rfl)) ?_;refine Yw 85 77371252455336267181195263 rfl (Zu [_,_] Y call28 Y rfl (mE hzo1 hzo1)) ?_;rintro _ _ ⟨rfl,rfl⟩;rw [decide_eq_true sm1];refine Zi 154742504910672534362390527 86 rfl (AL Y Y)<|Zi 309485009821345068724781055 87 rfl (AJ Y) ?_;refine CS (t:=136) Y (fun k14=>?_) (fun k14=>?_)
              ·
               first|rw [decide_eq_true k14]|rw [k14]|skip
               refine Bj (D':=618970019642690137449562111) 88 Y rfl rfl rfl Wh (Ab (cs:=#[_,_,_,_,_,_,_,_,_,_,_,_,_,_,_]) isAgg53 sizeOf53 Y (by exact tJ _) (by exact Av rfl)) ?_;refine Bj (D':=1237940039285380274899124223) 89 Y rfl rfl rfl Wh (Ab (cs:=#[_,_,_,_,_,_,_,_,_,_,_,_,_,_,_]) isAgg53 sizeOf53 Y (by exact tJ _) (by exact Av rfl)) ?_;refine Yw 90 2475880078570760549798248447 rfl (Zu [_,_] Y call28 Y rfl (mD hzo1 hzo2)) ?_;rintro _ _ ⟨rfl,rfl⟩;rw [decide_eq_false sm2];refine Ah (D':=4951760157141521099596496895) 91 Y rfl rfl rfl (Ca Y) ?_;refine Zi 9903520314283042199192993791 92 rfl (AL Y Y)<|Zi 19807040628566084398385987583 93 rfl (AJ Y) ?_;refine CS (t:=142) Y (fun k15=>?_) (fun k15=>?_)
               ·
                first|rw [decide_eq_true k15]|rw [k15]|skip
                refine Ah (D':=39614081257132168796771975167) 94 Y rfl rfl rfl (AJ Y) ?_;refine Ah (D':=79228162514264337593543950335) 95 Y rfl rfl rfl (C8 (n:=50) Y Y) ?_;refine Zi 158456325028528675187087900671 96 rfl (AL Y Y)<|Zi 316912650057057350374175801343 97 rfl (BA Y)<|Am ?_;refine Zn [0] ?_;refine Zx<|A9 ?_;refine AB rfl results11 Y (by exact ⟨rfl,rfl⟩)
               first|rw [decide_eq_false k15]|rw [k15]|skip
               cases k15
              first|rw [decide_eq_false k14]|rw [k14]|skip
              cases k14
             first|rw [decide_eq_false k13]|rw [k13]|skip
             cases k13
            first|rw [decide_eq_false k12]|rw [k12]|skip
            cases k12
           first|rw [decide_eq_false k11]|rw [k11]|skip
           cases k11
          first|rw [decide_eq_false k10]|rw [k10]|skip
          cases k10
         first|rw [decide_eq_false k9]|rw [k9]|skip
         exact absurd hu2 k9
        first|rw [decide_eq_false k8]|rw [k8]|skip
        exact absurd hs2 k8
       first|rw [decide_eq_false k7]|rw [k7]|skip
       exact absurd hv2 k7
      first|rw [decide_eq_false k6]|rw [k6]|skip
      exact absurd hu1 k6
     first|rw [decide_eq_false k5]|rw [k5]|skip
     exact absurd hs1 k5
    first|rw [decide_eq_false k4]|rw [k4]|skip
    exact absurd hv1 k4
   first|rw [decide_eq_false k3]|rw [k3]|skip
   cases k3
  first|rw [decide_eq_false k2]|rw [k2]|skip
  cases k2
 first|rw [decide_eq_false k1]|rw [k1]|skip
 cases k1
theorem nL{A B M:List AR}{va vb:Value}{x y:CL}(ha:Dv (A++M) va x.rows)(hb:Dv (B++M) vb y.rows):Au Tryz.prog 31 #[.agg #[va,I4 x.val,.bool x.fnd],.agg #[vb,I4 y.val,.bool y.fnd]] [A,B,M] (.bool (decide (x=y))):=by
 refine EK (R5 (ha.mono (M':=A++(B++M)) (fun c hc=>by rcases tV.1 hc with h9|h9;exact uG _ h9;exact tQ _ (tQ _ h9))) (hb.mono (fun c hc=>tQ A hc))) (by simp) ?_;rintro r H' ⟨rfl,rfl⟩;exact ⟨_,⟨rfl,rfl⟩,by simp⟩
theorem Vn{l:List Bo}{a k b:Nat}(hak:a≤k)(hkb:k≤b):DV l a b=DV l a k++DV l k b:=by
 unfold DV;rw [show b -a=(k -a)+(b -k) by omega,List.take_add,xg,show a+(k -a)=k by omega]
theorem VE{q:QM}{l:List Bo}{a k b:Nat}{s s2:Int}(hak:a≤k)(hkb:k≤b)(h:OZ q l a (b -a) s)(h2:OZ q l k (b -k) s2):s2=max s (k:Int):=by
 obtain ⟨⟨a1,a2⟩,a3,a4⟩:=h;obtain ⟨⟨b1,b2⟩,b3,b4⟩:=h2;have hs:∀j:Nat,(j:Int)+1=s→(a:Int)≠s→s2≤(j:Int)→False:=fun j hj hne hle=>by
  obtain ⟨j2,x,e1,e2,e3⟩:=a3 (fun h=>hne h.symm);obtain rfl:j2=j:=by omega
  have:=b4 j2 x hle (by omega) e2;rw [e3]at this;cases this
 have hs2:(k:Int)≠s2→s2≤s:=fun hne=>by
  obtain ⟨j,x,e1,e2,e3⟩:=b3 (fun h=>hne h.symm);rcases zM (j:Int) s with h9|h9
  · omega
  · have:=a4 j x h9 (by omega) e2
    rw [e3]at this;cases this
 have hs3:(k:Int)<s→s≤s2:=fun hlt=>by
  rcases zM s2 s with h9|h9
  · exact (hs (s -1).toNat (by omega) (by omega) (by omega)).elim
  · exact h9
 rcases zM (k:Int) s with h9|h9
 · have:=hs3 h9
   have:=hs2 (by omega);omega
 · rcases zM (k:Int) s2 with h8|h8
   · have:=hs2 (by omega);omega
   · omega
theorem ay{q:QM}(hq:BN q){l:List Bo}(hl:DR l){a k b:Nat}(hak:a≤k)(hkb:k≤b)(hb:b≤l.length){st:CL×Int}(h:Ez q (a:Int) 0 (Cz (Bb (l.take a)) q,(a:Int)) (DV l a b)=some st):∃st1 st2,Ez q (a:Int) 0 (Cz (Bb (l.take a)) q,(a:Int)) (DV l a k)=some st1∧Ez q (k:Int) 0 (Cz (Bb (l.take k)) q,(k:Int)) (DV l k b)=some st2∧st1.1=Cz (Bb (l.take k)) q∧st2.1=st.1∧OZ q l a (k -a) st1.2∧OZ q l k (b -k) st2.2:=by
 rw [Vn hak hkb,Mx]at h;cases h1:Ez q (a:Int) 0 (Cz (Bb (l.take a)) q,(a:Int)) (DV l a k)with
 |none=>rw [h1]at h;cases h
 |some st1=>
  rw [h1]at h;have h:Ez q (a:Int) (0+(DV l a k).length) st1 (DV l k b)=some st:=h
  obtain ⟨e1,e2⟩:=LU hq hl (by omega:a≤l.length) (k -a) (by omega) st1 h1;rw [show a+(k -a)=k by omega]at e1;have hs:=ME (q:=q) (base:=(a:Int)) (b:=(k:Int)) (DV l k b) (0+(DV l a k).length) 0 st1.1 st1.2 (k:Int) (by rw [LZ (by omega)];omega)
  rw [show(st1.1,st1.2)=st1 from rfl,h,e1]at hs;have hs:Ez q (k:Int) 0 (Cz (Bb (l.take k)) q,(k:Int)) (DV l k b)=some (st.1,if(DV l k b).any (Im q)then st.2 else(k:Int)):=hs
  obtain ⟨e3,e4⟩:=LU hq hl (by omega:k≤l.length) (b -k) (by omega) _ hs;exact ⟨st1,_,rfl,hs,e1,rfl,e2,e4⟩
theorem X4{l:List Bo}(hl:DR l)(h20:l.length≤20){a k b:Nat}(hak:a≤k)(hkb:k≤b)(hb:b≤l.length){q:QM}(hq:BN q){x:Ll}(h:DX l a b q=some x):∃y,DX l k b q=some y∧x.res=y.res∧y.since=max x.since (k:Int)∧y.until_=x.until_:=by
 obtain ⟨e1,e2⟩:=FN hl h20 (by omega) hb hq h;have hst:∀c,c≤l.length→Fa q (EM (Bb (l.take c)) q)=some (Cz (Bb (l.take c)) q):=fun c hc=>FJ (hl.rows c hc).1 (hl.rows c hc).2 (hl.rowsOk c hc) hq (Ff hl h20 hc q)
 have hlen:∀c,(DV l c b).length=b -c:=fun c=>LZ hb;unfold DX at h;rw [Gq (hst a (by omega)) (by rw [hlen];omega)]at h;cases hr:Ez q (a:Int) 0 (Cz (Bb (l.take a)) q,(a:Int)) (DV l a b)with
 |none=>rw [hr]at h;cases h
 |some st=>
  obtain ⟨st1,st2,_,h2,_,_,_,_⟩:=ay hq hl hak hkb hb hr;obtain ⟨y,hy⟩:∃y,DX l k b q=some y:=⟨_,by unfold DX;rw [Gq (hst k (by omega)) (by rw [hlen];omega),h2];rfl⟩;obtain ⟨e3,e4⟩:=FN hl h20 hkb hb hq hy;exact ⟨y,hy,by rw [e1,e3],VE hak hkb e2 e4,by rw [e1,e3]⟩
set_option maxHeartbeats 2000000 in
theorem mf{M:List AR}{v:Value}{xs:List (List Int)}(hX:Nh M v xs)(q0 q1 q2 q3 q4 cb cu:Int)(hq01:-9223372036854775808≤q0)(hq02:q0≤9223372036854775807)(hq11:-9223372036854775808≤q1)(hq12:q1≤9223372036854775807)(hq21:-9223372036854775808≤q2)(hq22:q2≤9223372036854775807)(hq31:-9223372036854775808≤q3)(hq32:q3≤9223372036854775807)(hq41:-9223372036854775808≤q4)(hq42:q4≤9223372036854775807)(hcb1:-9223372036854775808≤cb)(hcb2:cb≤9223372036854775807)(hcu1:-9223372036854775808≤cu)(hcu2:cu≤9223372036854775807)(tw:Value)(w:Int)(hw1:-9223372036854775808≤w)(hw2:w≤9223372036854775807)(Tg:TypeId)(zg:Nat×Nat):Au Tryz.prog 6 #[.agg #[v,I4 q0,I4 q1,I4 q2,I4 q3,I4 q4,I4 cb,I4 cu,tw],I4 w] [[(1,.cells (Cw.map Bn).toArray Tg zg)],M] (.bool true):=by
 have hml:=mL;refine Se func6 ntmps6 [0,1] ?_;intro u R;refine Zq<|Zg<|Ze (Bx #[v,I4 q0,I4 q1,I4 q2,I4 q3,I4 q4,I4 cb,I4 cu,tw]) ?_;rintro _ _ ⟨bc,rfl,rfl⟩;refine Za Y<|Z0<|Zx<|Zq<|Zg<|Xr [] Y call11 Y rfl (oU Tg zg) ?_;refine Za Y<|Z0<|Zx<|Zq<|Zg<|Zo Wh (Ab (cs:=#[_,_,_,_,_,_,_,_,_]) isAgg26 sizeOf26 Y (by exact tJ _) (by exact Av rfl)) ?_;refine Zc [_] Y call12 Y rfl (Vi hX q0 q1 q2 q3 q4 cb cu hq01 hq02 hq11 hq12 hq21 hq22 hq31 hq32 hq41 hq42 hcb1 hcb2 hcu1 hcu2 tw) ?_;rintro _ _ ⟨_,⟨l,p,cap,s,q,a,b,hlog,hll,hRI,hq,hab,hb,rfl,rfl⟩,rfl⟩;obtain ⟨p9,cap9,e9,⟨hl1,hl2⟩,hgl⟩:=id hRI;injection e9 with e91 e92 e93
 subst e91 e93;refine Zm Y<|Zd Y rfl<|Zd Y rfl<|Zd Y rfl<|Zd Y rfl<|Ze (Al zeroValue30 #[_,_,_,_,_,_,_]) ?_;rintro _ _ ⟨bq,rfl,rfl⟩;refine Za Y<|Xe (Xw sizeOf30 #[I4 q.kd,I4 q.tb,I4 q.cl,I4 q.lo,I4 q.hi,I4 q.bq,I4 q.ot]) ?_;refine Za Y<|Za Y<|Z0<|Zn [1,5,6,7,8,9] ?_;refine Zx<|Zq<|Zg<|Zm Y<|Zm Y<|Zm Y<|Zm Y<|Yb Y Y<|Ya (n:=1) Y Y<|Xr [_,_] Y call32 Y rfl (Xh w (b -a+1) (by omega) (by omega) hw1 hw2) ?_;obtain ⟨d,hdd⟩:∃d,d=C9 w (b -a+1):=⟨_,rfl⟩;rw [←hdd];have hld:=F4 w (b -a+1) (by omega)
 rw [←hdd]at hld;refine Ya Y Y<|Za Y<|Z0<|Zx<|Zq<|Zg<|Zm Y<|Zm Y<|Zm Y<|Zo Wh (Ab (cs:=#[_,_,_,_,_,_,_]) isAgg30 sizeOf30 Y (by exact tJ _) (by exact Av rfl)) ?_;refine Zc [_,_,_,_] Y call29 Y rfl (PZ hRI hlog hll a b hab hb q hq Tg zg) ?_;rintro _ _ ⟨_,⟨z1,E1,t1,pg1,cg1,hz1,hR1,rfl,rfl⟩,rfl⟩;obtain ⟨L1,hL1⟩:∃L,L=EM (Bb (l.take a)) q:=⟨_,rfl⟩;rw [←hL1]at hR1⊢;refine Zm Y<|Zd Y rfl<|Zd Y rfl<|Zd Y rfl<|Ze (Al zeroValue57 #[_,_,_,_,_,_,_,_,_,_]) ?_;rintro _ _ ⟨b3,rfl,rfl⟩;refine Ze (Al zeroValue53 #[_,_,_,_,_,_,_,_,_,_,_,_,_,_,_]) ?_;rintro _ _ ⟨b4,rfl,rfl⟩;refine Xe (Xw sizeOf57 #[I4 q.kd,I4 q.tb,I4 q.cl,I4 q.lo,I4 q.hi,I4 q.bq,I4 q.ot,I4 0,I4 (a:Int),.slice pg1 L1.length cg1]) ?_;refine Xe (Xw sizeOf53 #[I4 z1.a.q.kd,I4 z1.a.q.tb,I4 z1.a.q.cl,I4 z1.a.q.lo,I4 z1.a.q.hi,I4 z1.a.q.bq,I4 z1.a.q.ot,.slice z1.rp z1.a.res.rows.length z1.rc,I4 z1.a.res.val,.bool z1.a.res.fnd,I4 z1.a.since,I4 z1.a.until_,I4 z1.a.base,.slice z1.gp z1.a.ranges.length z1.gc,.slice z1.cp z1.a.recs.length z1.cc]) ?_;refine Za Y<|Z0<|Zn [5,6,7,9,10,12,13] ?_;refine Zx<|Zq<|Zg<|Zm Y<|Zm Y<|Zm Y<|Zo Wh (Ab (cs:=#[_,_,_,_,_,_,_]) isAgg30 sizeOf30 Y (by exact tJ _) (by exact Av rfl)) ?_;refine Zc [_,_,_,_] Y call29 Y rfl (PZ hRI hlog hll (a+d) b (by omega) hb q hq Tg zg) ?_;rintro _ _ ⟨_,⟨z2,E2,t2,pg2,cg2,hz2,hR2,rfl,rfl⟩,rfl⟩;obtain ⟨L2,hL2⟩:∃L,L=EM (Bb (l.take (a+d))) q:=⟨_,rfl⟩;rw [←hL2]at hR2⊢;refine Zm Y<|Zd Y rfl<|Zd Y rfl<|Zd Y rfl<|Ze (Al zeroValue57 #[_,_,_,_,_,_,_,_,_,_]) ?_;rintro _ _ ⟨b6,rfl,rfl⟩;refine Ze (Al zeroValue53 #[_,_,_,_,_,_,_,_,_,_,_,_,_,_,_]) ?_;rintro _ _ ⟨b7,rfl,rfl⟩;refine Xe (Xw sizeOf57 #[I4 q.kd,I4 q.tb,I4 q.cl,I4 q.lo,I4 q.hi,I4 q.bq,I4 q.ot,I4 0,I4 ((a+d:Nat):Int),.slice pg2 L2.length cg2]) ?_
 refine Xe (Xw sizeOf53 #[I4 z2.a.q.kd,I4 z2.a.q.tb,I4 z2.a.q.cl,I4 z2.a.q.lo,I4 z2.a.q.hi,I4 z2.a.q.bq,I4 z2.a.q.ot,.slice z2.rp z2.a.res.rows.length z2.rc,I4 z2.a.res.val,.bool z2.a.res.fnd,I4 z2.a.since,I4 z2.a.until_,I4 z2.a.base,.slice z2.gp z2.a.ranges.length z2.gc,.slice z2.cp z2.a.recs.length z2.cc]) ?_;refine Za Y<|Z0<|Zn [5,10,12,13,15,16] ?_;refine Zx<|Zq<|Zq<|Zg<|Zm Y<|Zv (Ca Y)<|Z0<|Zx ?_;refine Af Y (fun k1=>?_) (fun k1=>?_)
 ·
  refine Zq<|Zg<|Zm Y<|Za Y<|Z0<|Zx<|A9<|Zt ?_;refine AB rfl results6 Y (by exact ⟨rfl,rfl⟩)
 obtain rfl:t1=true:=by simpa using k1
 obtain ⟨hb1,hzo1⟩:DX l a b q=some z1.a∧z1.ok (E1++s):=by rcases hz1 with⟨_,h9⟩|⟨h9,_⟩;exact h9;cases h9
 obtain ⟨y,hy,y1,y2,y3⟩:=X4 hlog hll (by omega:a≤a+d) (by omega) hb hq hb1;obtain ⟨rfl,hb2,hzo2⟩:t2=true∧DX l (a+d) b q=some z2.a∧z2.ok (E2++s):=by rcases hz2 with h9|⟨_,h9⟩;exact h9;rw [hy]at h9;cases h9
 obtain rfl:y=z2.a:=by rw [hy]at hb2;injection hb2
 refine AC<|Zx<|Zq<|Zg<|Zm Y<|Zm Y ?_;refine Ak (t:=55) Y rfl (fun k2=>?_) (fun k2=>?_)
 ·
  refine Zf Y Y<|Zv (AL Y Y)<|Zm Y ?_;refine Ak (t:=58) Y rfl (fun k2=>?_) (fun k2=>?_)
  ·
   refine Yf 7 underlying53 rfl rfl sizeOf51 Y<|D8 Y Wh (Ab (cs:=#[_,_,_]) isAgg51 sizeOf51 Y (by(simp;done)) (by first|exact rfl|exact Av rfl)) rfl rfl ?_;refine Yf 7 underlying53 rfl rfl sizeOf51 Y<|D8 Y Wh (Ab (cs:=#[_,_,_]) isAgg51 sizeOf51 Y (by(simp;done)) (by first|exact rfl|exact Av rfl)) rfl rfl ?_;refine Xr [_,_] Y call31 Y rfl (nL hzo1.1 hzo2.1) ?_;rw [decide_eq_true y1];refine Zv (AL Y Y)<|Zm Y ?_;refine Ak (t:=65) Y rfl (fun k2=>?_) (fun k2=>?_)
   ·
    refine Yf 10 underlying53 rfl rfl sizeOf3 Y<|Yl isAgg3 Y (hv:=by first|exact rfl|exact Av rfl) ?_;refine Yf 10 underlying53 rfl rfl sizeOf3 Y<|Yl isAgg3 Y (hv:=by first|exact rfl|exact Av rfl) ?_;refine Zf Y Y<|Yg (TI Y Y)<|Yg (CE Y Y)<|Zv (AL Y Y)<|Zm Y ?_;refine Ai (t:=74) Y rfl (fun k5=>?_) (fun k5=>?_)
    ·
     refine Yf 11 underlying53 rfl rfl sizeOf3 Y<|Yl isAgg3 Y (hv:=by first|exact rfl|exact Av rfl) ?_;refine Yf 11 underlying53 rfl rfl sizeOf3 Y<|Yl isAgg3 Y (hv:=by first|exact rfl|exact Av rfl) ?_;refine Yg (CE Y Y)<|Zv (AL Y Y)<|Za Y<|Z0<|Zn [4] ?_;refine Zx<|A9 ?_;refine AB rfl results6 Y (by exact ⟨by rw [decide_eq_true y3],rfl⟩)
    exact absurd y2 k5
   cases k2
  cases k2
 cases k2
end Go.Proofs.YtkdgffcfmgmemaaGreatDoor
namespace Go.Proofs.YtkdgffcfmgmemaaGreatDoor
open Go.Proofs.Tryz
open Go Go.RowKit Gw
set_option maxRecDepth 100000
attribute [local irreducible] Gw.At Gw.Nx Gw.Ops
open Go.ChangeShapes Go.WideShapes Go.Deep
theorem dI{l:List Value}(h:l.length=5):∃a b c d e,l=[a,b,c,d,e]:=by
 match l,h with
 |[a,b,c,d,e],_=>exact ⟨a,b,c,d,e,rfl⟩
theorem cZ{H:Type}{enc:TypeId×Value→H}{W:World}{base:Nat}{held:Bool}{fuel:Nat}{l:List Value}{x:DataW H×List MemPlace}(h:DataW.trod enc Tryz.prog W base (fun _=>true) held fuel 23 l=some x)(hl:l.length=5):
 ∃a b c d e:Int,l=[I4 a,I4 b,I4 c,I4 d,I4 e]∧(-9223372036854775808≤a∧a≤9223372036854775807)∧(-9223372036854775808≤b∧b≤9223372036854775807)∧(-9223372036854775808≤c∧c≤9223372036854775807)∧(-9223372036854775808≤d∧d≤9223372036854775807)∧(-9223372036854775808≤e∧e≤9223372036854775807):=by
 obtain ⟨ys,m,_,_,_,hyl,hf⟩:=DataW.trod_array underlying23 h;have hj:∀j,j<5→∃n:Int,l[j]?=some (I4 n)∧-9223372036854775808≤n∧n≤9223372036854775807:=fun j hj=>by
  have f:=hf j hj;rw [rJ,wL,sV (by omega)]at f;have hj2:j<l.length:=by omega
  have e:(l.drop j).take 1=[l[j]]:=by rw [vF hj2];rfl
  rw [e]at f;obtain ⟨k,hk,_,hkw⟩:=DataW.trod_int underlying3 f;injection hk with hk _
  exact ⟨k,by rw [sV hj2,hk],bounds_i64 hkw⟩
 obtain ⟨v0,v1,v2,v3,v4,rfl⟩:=dI hl;obtain ⟨a,ha,ha2⟩:=hj 0 (by decide);obtain ⟨b,hb,hb2⟩:=hj 1 (by decide);obtain ⟨c,hc,hc2⟩:=hj 2 (by decide);obtain ⟨d,hd,hd2⟩:=hj 3 (by decide);obtain ⟨e,he,he2⟩:=hj 4 (by decide);simp at ha hb hc hd he;subst ha hb hc hd he;exact ⟨a,b,c,d,e,rfl,ha2,hb2,hc2,hd2,he2⟩
theorem Y1{P:Program}{w:World}{r:Reach}{base:Nat}{t:TypeId}{fs:Array Field}{v:Value}(hu:P.underlying t=some (.struct fs))(h:Value.okWide P w r base t v):∃cs,v= .agg cs∧cs.size=P.cellsOf t:=by
 unfold Value.okWide at h;rw [hu]at h;obtain ⟨cs,rfl,h1,_⟩:=h;exact ⟨cs,rfl,h1⟩
theorem pV:Tryz.prog.cellsOf 26=9:=by kernel_rfl
open Go.ChangeShapes Go.WideShapes Go.Deep
section
variable{H:Type}{enc:TypeId×Value→H}{W:World}{base:Nat}{held:Bool}
theorem Y0{Tg:TypeId}{zg:Nat×Nat}(h4:W.heap[1]?=some (.cells (Cw.map Bn).toArray Tg zg)){fuel:Nat}{cs:List Value}{x:DataW H×List MemPlace}(h:DataW.trod enc Tryz.prog W base (fun _=>true) held fuel 26 cs=some x)(hl:cs.length=9):
 ∃(p:Option Addr) (cap:Nat) (ys:List (List Int)) (n0 n1 n2 n3 n4 n5 n6:Int) (tw:Value),cs=[.slice p ys.length cap,I4 n0,I4 n1,I4 n2,I4 n3,I4 n4,I4 n5,I4 n6,tw]∧Nh (Oi W [1]) (.slice p ys.length cap) ys∧(-9223372036854775808≤n0∧n0≤9223372036854775807)∧(-9223372036854775808≤n1∧n1≤9223372036854775807)∧(-9223372036854775808≤n2∧n2≤9223372036854775807)∧(-9223372036854775808≤n3∧n3≤9223372036854775807)∧(-9223372036854775808≤n4∧n4≤9223372036854775807)∧(-9223372036854775808≤n5∧n5≤9223372036854775807)∧(-9223372036854775808≤n6∧n6≤9223372036854775807):=by
 obtain ⟨xs,m,_,hx,hcl,hxl,hf⟩:=DataW.trod_struct underlying26 h
 match cs,hl with
 |[a0,a1,a2,a3,a4,a5,a6,a7,a8],_=>
  have hy:∀i,i<5→∃y,xs[i]?=some y:=fun i hi=>⟨_,sV (by rw [hxl];exact hi)⟩;obtain ⟨y0,hy0⟩:=hy 0 (by decide);obtain ⟨y1,hy1⟩:=hy 1 (by decide);obtain ⟨y2,hy2⟩:=hy 2 (by decide);obtain ⟨y3,hy3⟩:=hy 3 (by decide);obtain ⟨u,g,hu,hm⟩:=Vw h4 ((hf 0 _ rfl).trans hy0);obtain ⟨n0,n1,n2,n3,n4,e1,b0,b1,b2,b3,b4⟩:=cZ ((hf 1 _ rfl).trans hy1) rfl;obtain ⟨n5,e5,_,b5⟩:=DataW.trod_int underlying3 ((hf 2 _ rfl).trans hy2);obtain ⟨n6,e6,_,b6⟩:=DataW.trod_int underlying3 ((hf 3 _ rfl).trans hy3);obtain ⟨p,cap,e,hz⟩:=id hm;subst e;change [a0]=[_]at hu;change [a1,a2,a3,a4,a5]=[_,_,_,_,_]at e1;change [a6]=[_]at e5;change [a7]=[_]at e6;injection hu with hu
  injection e1 with e1 e2
  injection e2 with e2 e3
  injection e3 with e3 e4
  injection e4 with e4 e7
  injection e7 with e7
  injection e5 with e5
  injection e6 with e6
  subst hu e1 e2 e3 e4 e7 e5 e6;exact ⟨p,cap,g,n0,n1,n2,n3,n4,n5,n6,a8,rfl,hm,b0,b1,b2,b3,b4,bounds_i64 b5,bounds_i64 b6⟩
end
end Go.Proofs.YtkdgffcfmgmemaaGreatDoor
namespace Go.Proofs.YtkdgffcfmgmemaaGreatDoor
open Go.Proofs.Tryz
open Go Go.RowKit Gw
set_option maxRecDepth 100000
attribute [local irreducible] Gw.At Gw.Nx Gw.Ops
theorem Y9(p:Option Addr)(cap:Nat)(ys:List (List Int))(M:List AR)(hX:Nh M (.slice p ys.length cap) ys)(n0 n1 n2 n3 n4 n5 n6:Int)(hn0:-9223372036854775808≤n0∧n0≤9223372036854775807)(hn1:-9223372036854775808≤n1∧n1≤9223372036854775807)(hn2:-9223372036854775808≤n2∧n2≤9223372036854775807)(hn3:-9223372036854775808≤n3∧n3≤9223372036854775807)(hn4:-9223372036854775808≤n4∧n4≤9223372036854775807)(hn5:-9223372036854775808≤n5∧n5≤9223372036854775807)(hn6:-9223372036854775808≤n6∧n6≤9223372036854775807)(tw:Value)(w:Int)(w1:-9223372036854775808≤w)(w2:w≤9223372036854775807)(Tg:TypeId)(zg:Nat×Nat):Au Tryz.prog 6 #[.agg #[.slice p ys.length cap,I4 n0,I4 n1,I4 n2,I4 n3,I4 n4,I4 n5,I4 n6,tw],I4 w] [[(1,.cells (Cw.map Bn).toArray Tg zg)],M] (.bool true):=mf hX n0 n1 n2 n3 n4 n5 n6 hn0.1 hn0.2 hn1.1 hn1.2 hn2.1 hn2.2 hn3.1 hn3.2 hn4.1 hn4.2 hn5.1 hn5.2 hn6.1 hn6.2 tw w w1 w2 Tg zg
end Go.Proofs.YtkdgffcfmgmemaaGreatDoor
namespace Go.Proofs.YtkdgffcfmgmemaaGreatDoor
open Go.Proofs.Tryz
open Go Go.RowKit Gw
set_option maxRecDepth 100000
attribute [local irreducible] Gw.At Gw.Nx Gw.Ops
open Go.ChangeShapes Go.WideShapes Go.ChangeAt
theorem UW{P:Program}{f:FuncId}{fn:Func}{s:ChangeSpec}{c:OpenClaim}(h0:c.wf (OpenSpec.ofChange s)=true)(h1:laidOutB P=true)(h2:mapsRowed P=true)(h3:fn.params.all (P.readableRec ·)=true)(h4:namedTie P c.named s.vars=true)(h5:(c.stops== [])=true)(h6:(P.stops== [])=true)(h7:(c.knobs== [])=true)(h8:(P.stopKnobs== [])=true)(h9:(c.inPlace==P.inPlace f)=true)(h10:(c.unfollowed==P.unfollowed f)=true)(h11:(c.recurses==P.recurses f)=true)(h12:(c.named==P.varsNamed f)=true)(h13:(c.maps==(fn.params.toList++s.plain.varTypes P).any (P.mapsRec ·))=true)(h14:(c.ifaces==(fn.params.toList++s.plain.varTypes P).any (P.ifacesRec ·))=true)(h15:(c.mapsOut==P.mapsAmong fn.resultTypes.toList)=true)(h16:(c.loops==(fn.params.toList++s.plain.varTypes P).any (P.loopsFrom ·))=true)(h17:(c.wideKeys==(fn.params.toList++s.plain.varTypes P++fn.resultTypes.toList).any (P.wideKeysFrom ·))=true)(h18:s.vars.all (P.varReadable ·)=true)(h19:fn.resultTypes.all (fun t=>P.readableRec t&&decide (t<P.types.size))=true)(h20:(c.ifacesOut==fn.resultTypes.toList.any (P.ifacesRec ·))=true)(h21:(c.loopsOut==fn.resultTypes.toList.any (P.loopsFrom ·))=true)(h22:(c.plainKeys==P.plainKeys)=true)(h23:c.shortTexts.isNone=true)(h24:P.stopsHeard=true)(h25:P.mayEnter=true)(h26:(c.lifted==P.liftsFinal)=true)(h27:(P.make==some c.make)=true)(h28:(c.kinds==(if c.domain.isEmpty then []else fn.params.toList.map fun t=>match P.underlying t with|some (.int k)=>some k|_=>none))=true)(h29:(c.pinned==c.pinnedBy)=true)(h30:(c.veiled==(fn.params.toList++s.plain.varTypes P++fn.resultTypes.toList).any (P.veiledRec ·))=true)(h31:c.veiledFits P fn.params.toList (fn.params.toList++s.plain.varTypes P++fn.resultTypes.toList)=true):joinedFacts P f fn s c=true:=by
 unfold joinedFacts;simp only [tY];exact ⟨⟨⟨⟨⟨⟨⟨⟨⟨⟨⟨⟨⟨⟨⟨⟨⟨⟨⟨⟨⟨⟨⟨⟨⟨⟨⟨⟨⟨⟨⟨h0,h1⟩,h2⟩,h3⟩,h4⟩,h5⟩,h6⟩,h7⟩,h8⟩,h9⟩,h10⟩,h11⟩,h12⟩,h13⟩,h14⟩,h15⟩,h16⟩,h17⟩,h18⟩,h19⟩,h20⟩,h21⟩,h22⟩,h23⟩,h24⟩,h25⟩,h26⟩,h27⟩,h28⟩,h29⟩,h30⟩,h31⟩
end Go.Proofs.YtkdgffcfmgmemaaGreatDoor
