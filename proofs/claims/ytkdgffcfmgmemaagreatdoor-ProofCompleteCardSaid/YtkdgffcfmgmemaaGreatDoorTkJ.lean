/- Sane. -/
/- The law ProofLater. -/
/- The law ProofComplete. -/
/- A case of chapter 11 as an argument. -/
/- ProofComplete as its card wants it. -/
/- The facts that a card wants, one by one. -/
import Derived.Test.YtkdgffcfmgmemaaGreatDoorEz
import Derived.Test.YtkdgffcfmgmemaaGreatDoorPz3
import Derived.Test.YtkdgffcfmgmemaaGreatDoorTk1
import Derived.JoinedOf
set_option linter.unusedVariables false
set_option linter.unusedSimpArgs false
namespace Go.Proofs.YtkdgffcfmgmemaaGreatDoor
open Go.Proofs.Tryz
open Go Go.RowKit Gw
set_option maxRecDepth 100000
attribute [local irreducible] Gw.At Gw.Nx Gw.Ops
set_option maxHeartbeats 4000000 in
theorem oo(Tg:TypeId)(zg:Nat×Nat):Aw Tryz.prog 11 #[] [[(1,.cells (Cw.map Bn).toArray Tg zg)]] (.bool true):=by
 have hml:=mL;refine Se func11 ntmps11 [] ?_;intro u R;refine Zq<|Zg<|Za Y<|Z0<|Zx<|Zq<|Zg<|Zc [] Y call42 Y rfl (eY) ?_;rintro _ _ ⟨_,⟨l,p,cap,M,hex,hRI,rfl,rfl⟩,rfl⟩;have hlen:=hex.len
 obtain ⟨L1,hL1⟩:∃L,L=Ef (Bc (l.take 1)) exQ:=⟨_,rfl⟩;refine Za Y<|Z0<|Zx<|Zq<|Zg<|Zv (BK (vs:=[(0,I4 3),(2,I4 1),(3,I4 10),(4,I4 19)]) (cs:=#[I4 3,I4 0,I4 1,I4 10,I4 19,I4 0,I4 0]) Y (Aa (pl:=#[(0,1),(1,1),(2,1),(3,1),(4,1),(5,1),(6,1)]) zeroValue30 underlying30 (fun _=>by kernel_rfl) (by kernel_rfl))) ?_;refine Ze (Al zeroValue30 #[_,_,_,_,_,_,_]) ?_;rintro _ _ ⟨bq,rfl,rfl⟩;refine Xe (Xw sizeOf30 #[I4 3,I4 0,I4 1,I4 10,I4 19,I4 0,I4 0]) ?_;refine Z0<|Zx<|Zq<|Zg<|Zm Y<|Zo Wh (AY (cs:=#[_,_,_,_,_,_,_]) isAgg30 sizeOf30 Y Wb (by exact Av rfl)) ?_;refine Zc [_,_,_,_] Y call29 Y rfl (aV hRI hex.ok (by omega) 1 2 (by decide) (by omega) exQ Fv Tg zg) ?_;rintro _ _ ⟨_,⟨z1,E1,t1,pg1,cg1,hz1,hR1,rfl,rfl⟩,rfl⟩;obtain ⟨x1,hx1,hv1,hs1,hu1⟩:=hex.one;obtain ⟨rfl,hb1,hzo1⟩:t1=true∧De l 1 2 exQ=some z1.a∧z1.ok (E1++M):=by rcases hz1 with h9|⟨_,h9⟩;exact h9;rw [hx1]at h9;cases h9
 obtain rfl:x1=z1.a:=by rw [hx1]at hb1;injection hb1
 rw [←hL1]at hR1⊢;obtain ⟨f11,f12,f13,f14,f15⟩:=LH hex.ok (by omega) (by decide) (by omega) Fv hb1;have ck1:=LJ hex.ok (by omega) (by decide:1≤2) (by omega) Fv hb1
 refine Zm Y<|Zd Y rfl<|Zd Y rfl<|Zd Y rfl<|Ze (Al zeroValue57 #[_,_,_,_,_,_,_,_,_,_]) ?_;rintro _ _ ⟨b3,rfl,rfl⟩;refine Ze (Al zeroValue53 #[_,_,_,_,_,_,_,_,_,_,_,_,_,_,_]) ?_;rintro _ _ ⟨b4,rfl,rfl⟩;refine Xe (Xw sizeOf57 #[I4 3,I4 0,I4 1,I4 10,I4 19,I4 0,I4 0,I4 0,I4 1,.slice pg1 L1.length cg1]) ?_;refine Xe (Xw sizeOf53 #[I4 z1.a.q.kd,I4 z1.a.q.tb,I4 z1.a.q.cl,I4 z1.a.q.lo,I4 z1.a.q.hi,I4 z1.a.q.bq,I4 z1.a.q.ot,.slice z1.rp z1.a.res.rows.length z1.rc,I4 z1.a.res.val,.bool z1.a.res.fnd,I4 z1.a.since,I4 z1.a.until_,I4 z1.a.base,.slice z1.gp z1.a.ranges.length z1.gc,.slice z1.cp z1.a.recs.length z1.cc]) ?_;refine Za Y<|Z0<|Zn [1,2,3,4,5] ?_;refine Zx<|Zq<|Zg<|Zm Y<|Zo Wh (AY (cs:=#[_,_,_,_,_,_,_]) isAgg30 sizeOf30 Y Wb (by exact Av rfl)) ?_;refine Zc [_,_,_,_] Y call29 Y rfl (aV hRI hex.ok (by omega) 1 3 (by decide) (by omega) exQ Fv Tg zg) ?_;rintro _ _ ⟨_,⟨z2,E2,t2,pg2,cg2,hz2,hR2,rfl,rfl⟩,rfl⟩;obtain ⟨x2,hx2,hv2,hs2,hu2⟩:=hex.two;obtain ⟨rfl,hb2,hzo2⟩:t2=true∧De l 1 3 exQ=some z2.a∧z2.ok (E2++M):=by rcases hz2 with h9|⟨_,h9⟩;exact h9;rw [hx2]at h9;cases h9
 obtain rfl:x2=z2.a:=by rw [hx2]at hb2;injection hb2
 rw [←hL1]at hR2⊢;obtain ⟨f21,f22,f23,f24,f25⟩:=LH hex.ok (by omega) (by decide) (by omega) Fv hb2;have ck2:=LJ hex.ok (by omega) (by decide:1≤3) (by omega) Fv hb2
 refine Zm Y<|Zd Y rfl<|Zd Y rfl<|Zd Y rfl<|Ze (Al zeroValue57 #[_,_,_,_,_,_,_,_,_,_]) ?_;rintro _ _ ⟨b6,rfl,rfl⟩;refine Ze (Al zeroValue53 #[_,_,_,_,_,_,_,_,_,_,_,_,_,_,_]) ?_;rintro _ _ ⟨b7,rfl,rfl⟩;refine Xe (Xw sizeOf57 #[I4 3,I4 0,I4 1,I4 10,I4 19,I4 0,I4 0,I4 0,I4 1,.slice pg2 L1.length cg2]) ?_;refine Xe (Xw sizeOf53 #[I4 z2.a.q.kd,I4 z2.a.q.tb,I4 z2.a.q.cl,I4 z2.a.q.lo,I4 z2.a.q.hi,I4 z2.a.q.bq,I4 z2.a.q.ot,.slice z2.rp z2.a.res.rows.length z2.rc,I4 z2.a.res.val,.bool z2.a.res.fnd,I4 z2.a.since,I4 z2.a.until_,I4 z2.a.base,.slice z2.gp z2.a.ranges.length z2.gc,.slice z2.cp z2.a.recs.length z2.cc]) ?_;refine Za Y<|Z0<|Zx<|Zb [3,1,4,5,7,8] ?_;refine CU (e0:=[(3,_)]) (H0:=[E1,M]) (fun e H=>(True)∧e=[(10,.bool false)]∧H=[E1,M]) Wp ?hx_1 ?hy_1
 case hx_1=>
  refine BJ (n:=10) (0::0::2::7::15::31::31::0::191::511::[]) 392 (by kernel_rfl) (by kernel_rfl) rfl ?_;refine DU (D':=1) 0 rfl rfl rfl Wh (AY (cs:=#[_,_,_,_,_,_,_,_,_,_]) isAgg57 sizeOf57 Y (by exact tQ _) (by exact Av rfl)) ?_;refine Zi 3 1 rfl (AJ Y) ?_;refine Zi 7 2 rfl (Bz (l:=2) underlying28 sizeOf73 Y Y (by omega)) ?_;refine Zz (l:=[3,7]) ?_;refine Zy 7 15 [0] [false] [] rfl Y rfl rfl rfl rfl (Zw [_,_] Y call18 Y rfl (K3 exQ 0 1 (by decide) hR1 (by rw [hL1];have:=Jq (Bc (l.take 1)) exQ;have:=Em hex.ok (by omega) (by omega:1≤l.length) exQ;omega) (by rw [hL1];exact F3 (hex.ok.rows 1 (by omega)).1 (hex.ok.rows 1 (by omega)).2 (hex.ok.rowsOk 1 (by omega)) Fv (Em hex.ok (by omega) (by omega) exQ)) (Ex (Jf (a:=2) hRI (by omega) (tQ _)) (fun c hc=>tZ E1 hc)) (Iu hex.ok 2 l.length))) ?hk_2 Ck ?hl_2
  case hk_2=>
   rintro _ _ ⟨_,⟨z9,s9,t9,hz9,rfl,rfl⟩,rfl⟩;refine ⟨Ad,?_⟩;obtain rfl:t9=false:=by rcases hz9 with⟨_,h9,_⟩|⟨h9,_⟩;rw [hL1,show(l.drop 2).take (l.length -2)=ER l 2 l.length from rfl,hex.third]at h9;cases h9;exact h9
   refine Zi 31 4 rfl (AJ Y)<|Zi 63 5 rfl (CP Y rfl)<|Zi 127 6 rfl (CP Y rfl)<|Zz (l:=[7]) ?_;refine Zy 0 255 [] [] [] rfl Y rfl rfl rfl rfl (Al zeroValue53 #[_,_,_,_,_,_,_,_,_,_,_,_,_,_,_]) ?hk_3 (fun _ _ h=>h.elim) ?hl_3
   case hk_3=>
    rintro _ _ ⟨b9,rfl,rfl⟩;refine ⟨Ad,?_⟩;refine Yw 8 511 rfl (Xw sizeOf53 #[I4 z9.a.q.kd,I4 z9.a.q.tb,I4 z9.a.q.cl,I4 z9.a.q.lo,I4 z9.a.q.hi,I4 z9.a.q.bq,I4 z9.a.q.ot,.slice z9.rp z9.a.res.rows.length z9.rc,I4 z9.a.res.val,.bool z9.a.res.fnd,I4 z9.a.since,I4 z9.a.until_,I4 z9.a.base,.slice z9.gp z9.a.ranges.length z9.gc,.slice z9.cp z9.a.recs.length z9.cc]) ?_;rintro _ _ ⟨rfl,rfl⟩;refine Zi 1023 9 rfl (Ay Y)<|Am ?_;refine Zn [10,1,4,5,7,8] ?_;refine BA (e':=[(10,_)]) (by exact ⟨trivial,rfl,rfl⟩)
   exact Ar
  refine Zy 0 135 [0] [true] [(0,(_,_))] rfl Y rfl rfl rfl rfl (Al zeroValue53 #[_,_,_,_,_,_,_,_,_,_,_,_,_,_,_]) ?hk_6 (fun _ _ h=>h.elim) ?hl_6
  case hk_6=>
   rintro _ _ ⟨b9,rfl,rfl⟩;refine ⟨Zk (Ad),?_⟩;refine Zz (l:=[3]) ?_;refine Zy 7 143 [0] [false] [] rfl Y rfl rfl rfl rfl (Zw [_,_] Y call18 Y rfl (K3 exQ 0 1 (by decide) hR1 (by rw [hL1];have:=Jq (Bc (l.take 1)) exQ;have:=Em hex.ok (by omega) (by omega:1≤l.length) exQ;omega) (by rw [hL1];exact F3 (hex.ok.rows 1 (by omega)).1 (hex.ok.rows 1 (by omega)).2 (hex.ok.rowsOk 1 (by omega)) Fv (Em hex.ok (by omega) (by omega) exQ)) (Ex (Jf (a:=2) hRI (by omega) (tQ _)) (fun c hc=>tZ E1 hc)) (Iu hex.ok 2 l.length))) ?hk_7 Ck ?hl_7
   case hk_7=>
    rintro _ _ ⟨_,⟨z9,s9,t9,hz9,rfl,rfl⟩,rfl⟩;refine ⟨Ad,?_⟩;obtain rfl:t9=false:=by rcases hz9 with⟨_,h9,_⟩|⟨h9,_⟩;rw [hL1,show(l.drop 2).take (l.length -2)=ER l 2 l.length from rfl,hex.third]at h9;cases h9;exact h9
    refine Zi 159 4 rfl (AJ Y)<|Zi 191 5 rfl (CP Y rfl)<|Zi 255 6 rfl (CP Y rfl)<|Zz (l:=[8]) ?_;refine Zy 191 511 [] [] [] rfl Y rfl rfl rfl rfl (Xw sizeOf53 #[I4 z9.a.q.kd,I4 z9.a.q.tb,I4 z9.a.q.cl,I4 z9.a.q.lo,I4 z9.a.q.hi,I4 z9.a.q.bq,I4 z9.a.q.ot,.slice z9.rp z9.a.res.rows.length z9.rc,I4 z9.a.res.val,.bool z9.a.res.fnd,I4 z9.a.since,I4 z9.a.until_,I4 z9.a.base,.slice z9.gp z9.a.ranges.length z9.gc,.slice z9.cp z9.a.recs.length z9.cc]) ?hk_8 (fun _ _ h=>h.elim) ?hl_8
    case hk_8=>
     rintro _ _ ⟨rfl,rfl⟩;refine ⟨Ad,?_⟩;refine Zi 1023 9 rfl (Ay Y)<|Am ?_;refine Zn [10,1,4,5,7,8] ?_;refine BA (e':=[(10,_)]) (by exact ⟨trivial,rfl,rfl⟩)
    exact Ar
   exact Ar
  exact Ar
 rintro _ _ ⟨_,rfl,rfl⟩;refine Zq<|Zg<|Zm Y<|Zc [_] Y call22 Y rfl (Su hRI hex.ok (by omega)) ?_;rintro _ _ ⟨_,⟨sh,hsh,rfl⟩,rfl⟩;rw [hlen]at hsh;obtain ⟨gh,ch,curh,zh,rfl,rfl,hw⟩:=WQ hsh (by decide);have hw1:=hw 1 (by decide)
 have hw2:=hw 2 (by decide);have hw3:=hw 3 (by decide)
 have hp2:=(J3 hex.ok (by omega) 2 (by omega)).2.1;obtain ⟨h1,hh1⟩:∃h,h=EL l 1:=⟨_,rfl⟩;obtain ⟨h2,hh2⟩:∃h,h=EL l 2:=⟨_,rfl⟩;obtain ⟨h3,hh3⟩:∃h,h=EL l 3:=⟨_,rfl⟩;rw [←hh1]at hw1;rw [←hh2]at hw2;rw [←hh3]at hw3;rw [←hh1,←hh2]at ck1;rw [←hh1,←hh3]at ck2;rw [←hh2]at hp2;obtain ⟨e1,_⟩:=Fw hex.ok (by omega) (by decide:1≤3) (by omega) Fv hb2;have hba2:z2.a.base=1:=by rw [e1];rfl
 have ck3:¬IE h1 h3 (⟨⟨z2.a.q,⟨z2.a.res.rows,1,z2.a.res.fnd⟩,z2.a.since,z2.a.until_,z2.a.base,z2.a.ranges,z2.a.recs⟩,z2.rp,z2.rc,z2.gp,z2.gc,z2.cp,z2.cc⟩:K5).a:=fun h9=>by have h8:=(Yc hex.ok (by omega) (by decide:1≤3) (by omega) Fv hb2 (y:=(⟨⟨z2.a.q,⟨z2.a.res.rows,1,z2.a.res.fnd⟩,z2.a.since,z2.a.until_,z2.a.base,z2.a.ranges,z2.a.recs⟩,z2.rp,z2.rc,z2.gp,z2.gc,z2.cp,z2.cc⟩:K5).a) ⟨rfl,rfl,rfl,rfl⟩ (u:=h3) (by rw [←hh1];exact h9)).1.2.2.2.2.1;have h7:=congrArg CO.val h8;rw [hv2]at h7;revert h7;show¬(1:Int)=2;decide
 have ck4:¬IE h2 h3 z2.a:=fun h9=>by have h8:=h9.1;rw [hp2,hba2]at h8;revert h8;decide
 have sm1:z1.a.eqv z1.a:=z1.a.eqv_refl;have sm2:¬z1.a.eqv z2.a:=fun h9=>by have h8:=h9.2.1;rw [hs1,hs2]at h8;revert h8;decide
 refine Za Y<|Z0<|Zx<|Zq<|Zg<|Zo Wh (AY (cs:=#[I4 z2.a.q.kd,I4 z2.a.q.tb,I4 z2.a.q.cl,I4 z2.a.q.lo,I4 z2.a.q.hi,I4 z2.a.q.bq,I4 z2.a.q.ot,.slice z2.rp z2.a.res.rows.length z2.rc,I4 z2.a.res.val,.bool z2.a.res.fnd,I4 z2.a.since,I4 z2.a.until_,I4 z2.a.base,.slice z2.gp z2.a.ranges.length z2.gc,.slice z2.cp z2.a.recs.length z2.cc]) isAgg53 sizeOf53 Y Wb (by exact Av rfl)) ?_;refine Ze (Al zeroValue53 #[_,_,_,_,_,_,_,_,_,_,_,_,_,_,_]) ?_;rintro _ _ ⟨bc,rfl,rfl⟩;refine Xe (Xw sizeOf53 #[I4 z2.a.q.kd,I4 z2.a.q.tb,I4 z2.a.q.cl,I4 z2.a.q.lo,I4 z2.a.q.hi,I4 z2.a.q.bq,I4 z2.a.q.ot,.slice z2.rp z2.a.res.rows.length z2.rc,I4 z2.a.res.val,.bool z2.a.res.fnd,I4 z2.a.since,I4 z2.a.until_,I4 z2.a.base,.slice z2.gp z2.a.ranges.length z2.gc,.slice z2.cp z2.a.recs.length z2.cc]) ?_;refine Z0<|Zx<|Zq<|Zg<|Zh 7 underlying53 rfl rfl sizeOf51 Y<|Zv (BH (off:=1) underlying51 rfl rfl sizeOf3 Y)<|Xe (Zs sizeOf3 Y Y rfl (hc:=by exact (rfl:_=(#[I4 z2.a.q.kd,I4 z2.a.q.tb,I4 z2.a.q.cl,I4 z2.a.q.lo,I4 z2.a.q.hi,I4 z2.a.q.bq,I4 z2.a.q.ot,.slice z2.rp z2.a.res.rows.length z2.rc,I4 1,.bool z2.a.res.fnd,I4 z2.a.since,I4 z2.a.until_,I4 z2.a.base,.slice z2.gp z2.a.ranges.length z2.gc,.slice z2.cp z2.a.recs.length z2.cc]:Array Value))) (hi:=by first|omega|decide|(simp;done))) ?_;refine Z0<|Zx<|Zq<|Zg<|Zc [] Y call43 Y rfl (gV) ?_;rintro _ _ ⟨_,⟨sp9,mb9,rfl,rfl⟩,rfl⟩;refine Zv (BK (vs:=[]) (cs:=#[I4 0,I4 0,I4 0,I4 0,I4 0,I4 0,I4 0]) Y (Aa (pl:=#[(0,1),(1,1),(2,1),(3,1),(4,1),(5,1),(6,1)]) zeroValue30 underlying30 (fun _=>by kernel_rfl) (by kernel_rfl))) ?_;refine Xr [_,_] Y call15 Y rfl (jO (s:=[]) ⟨0,0,0,0,0,0,0⟩ fI) ?_;refine Zm Y<|Zd Y rfl<|Zd Y rfl<|Za Y<|Za Y<|Z0<|Zn [4,5,7,8,10,11,12,14] ?_
 refine Zx<|Zq<|BJ (n:=98) (0::1::3::7::15::31::63::127::255::511::1023::2047::4095::8191::16383::32767::65535::131071::262143::524287::1048575::2097151::4194303::8388607::16777215::33554431::67108863::134217727::268435455::536870911::1073741823::2147483647::4294967295::8589934591::17179869183::34359738367::68719476735::137438953471::274877906943::549755813887::1099511627775::2199023255551::4398046511103::8796093022207::2199023255551::19791209299967::54975581388799::2199023255551::281474976710655::562949953421311::1125899906842623::2251799813685247::4503599627370495::9007199254740991::2251799813685247::20266198323167231::56294995342131199::2251799813685247::288230376151711743::576460752303423487::1152921504606846975::2305843009213693951::4611686018427387903::9223372036854775807::2305843009213693951::20752587082923245567::57646075230342348799::2305843009213693951::295147905179352825855::590295810358705651711::1180591620717411303423::2361183241434822606847::4722366482869645213695::9444732965739290427391::18889465931478580854783::4722366482869645213695::42501298345826806923263::118059162071741130342399::4722366482869645213695::604462909807314587353087::1208925819614629174706175::2417851639229258349412351::4835703278458516698824703::9671406556917033397649407::9671406556917033397649407::38685626227668133590597631::77371252455336267181195263::154742504910672534362390527::309485009821345068724781055::309485009821345068724781055::1237940039285380274899124223::2475880078570760549798248447::4951760157141521099596496895::9903520314283042199192993791::19807040628566084398385987583::39614081257132168796771975167::79228162514264337593543950335::158456325028528675187087900671::[]) 1277230423859272753558323200 (by kernel_rfl) (by kernel_rfl) rfl ?_;refine Zi 1 0 rfl (AJ Y)<|Zi 3 1 rfl (AJ Y) ?_;refine CJ (t:=50) Y (fun k1=>?_) (fun k1=>?_)
 ·
  first|rw [decide_eq_true k1]|rw [k1]|skip
  refine Ag (D':=7) 2 Y rfl rfl rfl (AJ Y) ?_;refine Zi 15 3 rfl (AL Y Y)<|Zi 31 4 rfl (AJ Y) ?_;refine CJ (t:=53) Y (fun k2=>?_) (fun k2=>?_)
  ·
   first|rw [decide_eq_true k2]|rw [k2]|skip
   refine Ag (D':=63) 5 Y rfl rfl rfl (AJ Y) ?_;refine Ag (D':=127) 6 Y rfl rfl rfl (CZ Y) ?_;refine Zi 255 7 rfl (AL Y Y)<|Zi 511 8 rfl (AJ Y) ?_;refine CJ (t:=57) Y (fun k3=>?_) (fun k3=>?_)
   ·
    first|rw [decide_eq_true k3]|rw [k3]|skip
    refine Ag (D':=1023) 9 Y rfl rfl rfl (AX (off:=7) underlying53 rfl rfl sizeOf51 Y) ?_;refine Ag (D':=2047) 10 Y rfl rfl rfl (BH (off:=1) underlying51 rfl rfl sizeOf3 Y) ?_;refine Be (D':=4095) 11 Y rfl rfl rfl Wh (Bg isAgg3 Y (by rfl)) ?_;refine Ag (D':=8191) 12 Y rfl rfl rfl (CG Y Y) ?_;refine Zi 16383 13 rfl (AL Y Y)<|Zi 32767 14 rfl (AJ Y) ?_;refine CR (t:=63) Y (fun k4=>?_) (fun k4=>?_)
    ·
     first|rw [decide_eq_true k4]|rw [k4]|skip
     refine Ag (D':=65535) 15 Y rfl rfl rfl (AX (off:=10) underlying53 rfl rfl sizeOf3 Y) ?_;refine Be (D':=131071) 16 Y rfl rfl rfl Wh (Bg isAgg3 Y (by rfl)) ?_;refine Ag (D':=262143) 17 Y rfl rfl rfl (CG Y Y) ?_;refine Zi 524287 18 rfl (AL Y Y)<|Zi 1048575 19 rfl (AJ Y) ?_;refine CR (t:=68) Y (fun k5=>?_) (fun k5=>?_)
     ·
      first|rw [decide_eq_true k5]|rw [k5]|skip
      refine Ag (D':=2097151) 20 Y rfl rfl rfl (AX (off:=11) underlying53 rfl rfl sizeOf3 Y) ?_;refine Be (D':=4194303) 21 Y rfl rfl rfl Wh (Bg isAgg3 Y (by rfl)) ?_;refine Ag (D':=8388607) 22 Y rfl rfl rfl (CG Y Y) ?_;refine Zi 16777215 23 rfl (AL Y Y)<|Zi 33554431 24 rfl (AJ Y) ?_;refine CR (t:=73) Y (fun k6=>?_) (fun k6=>?_)
      ·
       first|rw [decide_eq_true k6]|rw [k6]|skip
       refine Ag (D':=67108863) 25 Y rfl rfl rfl (AX (off:=7) underlying53 rfl rfl sizeOf51 Y) ?_;refine Ag (D':=134217727) 26 Y rfl rfl rfl (BH (off:=1) underlying51 rfl rfl sizeOf3 Y) ?_;refine Be (D':=268435455) 27 Y rfl rfl rfl Wh (Bg isAgg3 Y (by rfl)) ?_;refine Ag (D':=536870911) 28 Y rfl rfl rfl (CG Y Y) ?_;refine Zi 1073741823 29 rfl (AL Y Y)<|Zi 2147483647 30 rfl (AJ Y) ?_;refine CR (t:=79) Y (fun k7=>?_) (fun k7=>?_)
       ·
        first|rw [decide_eq_true k7]|rw [k7]|skip
        refine Ag (D':=4294967295) 31 Y rfl rfl rfl (AX (off:=10) underlying53 rfl rfl sizeOf3 Y) ?_;refine Be (D':=8589934591) 32 Y rfl rfl rfl Wh (Bg isAgg3 Y (by rfl)) ?_;refine Ag (D':=17179869183) 33 Y rfl rfl rfl (CG Y Y) ?_;refine Zi 34359738367 34 rfl (AL Y Y)<|Zi 68719476735 35 rfl (AJ Y) ?_;refine CR (t:=84) Y (fun k8=>?_) (fun k8=>?_)
        ·
         first|rw [decide_eq_true k8]|rw [k8]|skip
         refine Ag (D':=137438953471) 36 Y rfl rfl rfl (AX (off:=11) underlying53 rfl rfl sizeOf3 Y) ?_;refine Be (D':=274877906943) 37 Y rfl rfl rfl Wh (Bg isAgg3 Y (by rfl)) ?_;refine Ag (D':=549755813887) 38 Y rfl rfl rfl (CG Y Y) ?_;refine Zi 1099511627775 39 rfl (AL Y Y)<|Zi 2199023255551 40 rfl (AJ Y) ?_;refine CR (t:=89) Y (fun k9=>?_) (fun k9=>?_)
         ·
          first|rw [decide_eq_true k9]|rw [k9]|skip
          refine Ag (D':=4398046511103) 41 Y rfl rfl rfl (AJ Y) ?_;refine Ag (D':=8796093022207) 42 Y rfl rfl rfl (AZ (j:=1) underlying60 sizeOf67 Y Y (by omega)) ?_;refine Be (D':=17592186044415) 43 Y rfl rfl rfl Wh (AY (cs:=#[I4 h1.p,.string (str h1.ch),.string (str h1.st)]) isAgg67 sizeOf67 Y (hw1).1 (hw1).2) ?_;refine Ag (D':=35184372088831) 44 Y rfl rfl rfl (AJ Y) ?_;refine Ag (D':=70368744177663) 45 Y rfl rfl rfl (AZ (j:=2) underlying60 sizeOf67 Y Y (by omega)) ?_;refine Be (D':=140737488355327) 46 Y rfl rfl rfl Wh (AY (cs:=#[I4 h2.p,.string (str h2.ch),.string (str h2.st)]) isAgg67 sizeOf67 Y (hw2).1 (hw2).2) ?_;refine Be (D':=281474976710655) 47 Y rfl rfl rfl Wh (AY (cs:=#[_,_,_,_,_,_,_,_,_,_,_,_,_,_,_]) isAgg53 sizeOf53 Y (by exact tQ _) (by exact Av rfl)) ?_;refine Yw 48 562949953421311 rfl (Zu [_,_,_] Y call26 Y rfl (LF h1 h2 hzo1 f11 f12 f13 f14 f15 Tg zg)) ?_;rintro _ _ ⟨rfl,rfl⟩;rw [decide_eq_true ck1];refine Zi 1125899906842623 49 rfl (AL Y Y)<|Zi 2251799813685247 50 rfl (AJ Y) ?_;refine CJ (t:=99) Y (fun k10=>?_) (fun k10=>?_)
          ·
           first|rw [decide_eq_true k10]|rw [k10]|skip
           refine Ag (D':=4503599627370495) 51 Y rfl rfl rfl (AJ Y) ?_;refine Ag (D':=9007199254740991) 52 Y rfl rfl rfl (AZ (j:=1) underlying60 sizeOf67 Y Y (by omega)) ?_;refine Be (D':=18014398509481983) 53 Y rfl rfl rfl Wh (AY (cs:=#[I4 h1.p,.string (str h1.ch),.string (str h1.st)]) isAgg67 sizeOf67 Y (hw1).1 (hw1).2) ?_;refine Ag (D':=36028797018963967) 54 Y rfl rfl rfl (AJ Y) ?_;refine Ag (D':=72057594037927935) 55 Y rfl rfl rfl (AZ (j:=3) underlying60 sizeOf67 Y Y (by omega)) ?_;refine Be (D':=144115188075855871) 56 Y rfl rfl rfl Wh (AY (cs:=#[I4 h3.p,.string (str h3.ch),.string (str h3.st)]) isAgg67 sizeOf67 Y (hw3).1 (hw3).2) ?_;refine Be (D':=288230376151711743) 57 Y rfl rfl rfl Wh (AY (cs:=#[_,_,_,_,_,_,_,_,_,_,_,_,_,_,_]) isAgg53 sizeOf53 Y (by exact tQ _) (by exact Av rfl)) ?_;refine Yw 58 576460752303423487 rfl (Zu [_,_,_] Y call26 Y rfl (LF h1 h3 hzo2 f21 f22 f23 f24 f25 Tg zg)) ?_;rintro _ _ ⟨rfl,rfl⟩;rw [decide_eq_true ck2];refine Zi 1152921504606846975 59 rfl (AL Y Y)<|Zi 2305843009213693951 60 rfl (AJ Y) ?_;refine CJ (t:=109) Y (fun k11=>?_) (fun k11=>?_)
           ·
            first|rw [decide_eq_true k11]|rw [k11]|skip
            refine Ag (D':=4611686018427387903) 61 Y rfl rfl rfl (AJ Y) ?_;refine Ag (D':=9223372036854775807) 62 Y rfl rfl rfl (AZ (j:=1) underlying60 sizeOf67 Y Y (by omega)) ?_;refine Be (D':=18446744073709551615) 63 Y rfl rfl rfl Wh (AY (cs:=#[I4 h1.p,.string (str h1.ch),.string (str h1.st)]) isAgg67 sizeOf67 Y (hw1).1 (hw1).2) ?_;refine Ag (D':=36893488147419103231) 64 Y rfl rfl rfl (AJ Y) ?_;refine Ag (D':=73786976294838206463) 65 Y rfl rfl rfl (AZ (j:=3) underlying60 sizeOf67 Y Y (by omega)) ?_;refine Be (D':=147573952589676412927) 66 Y rfl rfl rfl Wh (AY (cs:=#[I4 h3.p,.string (str h3.ch),.string (str h3.st)]) isAgg67 sizeOf67 Y (hw3).1 (hw3).2) ?_;refine Be (D':=295147905179352825855) 67 Y rfl rfl rfl Wh (AY (cs:=#[_,_,_,_,_,_,_,_,_,_,_,_,_,_,_]) isAgg53 sizeOf53 Y (by exact tQ _) (by exact Av rfl)) ?_;refine Yw 68 590295810358705651711 rfl (Zu [_,_,_] Y call26 Y rfl (LF h1 h3 (z:=(⟨⟨z2.a.q,⟨z2.a.res.rows,1,z2.a.res.fnd⟩,z2.a.since,z2.a.until_,z2.a.base,z2.a.ranges,z2.a.recs⟩,z2.rp,z2.rc,z2.gp,z2.gc,z2.cp,z2.cc⟩:K5)) hzo2 f21 f22 f23 f24 f25 Tg zg)) ?_;rintro _ _ ⟨rfl,rfl⟩;rw [decide_eq_false ck3];refine Ag (D':=1180591620717411303423) 69 Y rfl rfl rfl (CZ Y) ?_;refine Zi 2361183241434822606847 70 rfl (AL Y Y)<|Zi 4722366482869645213695 71 rfl (AJ Y) ?_;refine CJ (t:=120) Y (fun k12=>?_) (fun k12=>?_)
            ·
             first|rw [decide_eq_true k12]|rw [k12]|skip
             refine Ag (D':=9444732965739290427391) 72 Y rfl rfl rfl (AJ Y) ?_;refine Ag (D':=18889465931478580854783) 73 Y rfl rfl rfl (AZ (j:=2) underlying60 sizeOf67 Y Y (by omega)) ?_;refine Be (D':=37778931862957161709567) 74 Y rfl rfl rfl Wh (AY (cs:=#[I4 h2.p,.string (str h2.ch),.string (str h2.st)]) isAgg67 sizeOf67 Y (hw2).1 (hw2).2) ?_;refine Ag (D':=75557863725914323419135) 75 Y rfl rfl rfl (AJ Y) ?_;refine Ag (D':=151115727451828646838271) 76 Y rfl rfl rfl (AZ (j:=3) underlying60 sizeOf67 Y Y (by omega)) ?_;refine Be (D':=302231454903657293676543) 77 Y rfl rfl rfl Wh (AY (cs:=#[I4 h3.p,.string (str h3.ch),.string (str h3.st)]) isAgg67 sizeOf67 Y (hw3).1 (hw3).2) ?_;refine Be (D':=604462909807314587353087) 78 Y rfl rfl rfl Wh (AY (cs:=#[_,_,_,_,_,_,_,_,_,_,_,_,_,_,_]) isAgg53 sizeOf53 Y (by exact tQ _) (by exact Av rfl)) ?_;refine Yw 79 1208925819614629174706175 rfl (Zu [_,_,_] Y call26 Y rfl (LF h2 h3 hzo2 f21 f22 f23 f24 f25 Tg zg)) ?_;rintro _ _ ⟨rfl,rfl⟩;rw [decide_eq_false ck4];refine Ag (D':=2417851639229258349412351) 80 Y rfl rfl rfl (CZ Y) ?_;refine Zi 4835703278458516698824703 81 rfl (AL Y Y)<|Zi 9671406556917033397649407 82 rfl (AJ Y) ?_;refine CJ (t:=131) Y (fun k13=>?_) (fun k13=>?_)
             ·
              first|rw [decide_eq_true k13]|rw [k13]|skip
              refine Be (D':=19342813113834066795298815) 83 Y rfl rfl rfl Wh (AY (cs:=#[_,_,_,_,_,_,_,_,_,_,_,_,_,_,_]) isAgg53 sizeOf53 Y (by exact tQ _) (by exact Av rfl)) ?_;refine Be (D':=38685626227668133590597631) 84 Y rfl rfl rfl Wh (AY (cs:=#[_,_,_,_,_,_,_,_,_,_,_,_,_,_,_]) isAgg53 sizeOf53 Y (by exact tQ _) (by exact Av rfl)) ?_;refine Yw 85 77371252455336267181195263 rfl (Zu [_,_] Y call28 Y rfl (mP hzo1 hzo1)) ?_;rintro _ _ ⟨rfl,rfl⟩;rw [decide_eq_true sm1];refine Zi 154742504910672534362390527 86 rfl (AL Y Y)<|Zi 309485009821345068724781055 87 rfl (AJ Y) ?_;refine CJ (t:=136) Y (fun k14=>?_) (fun k14=>?_)
              ·
               first|rw [decide_eq_true k14]|rw [k14]|skip
               refine Be (D':=618970019642690137449562111) 88 Y rfl rfl rfl Wh (AY (cs:=#[_,_,_,_,_,_,_,_,_,_,_,_,_,_,_]) isAgg53 sizeOf53 Y (by exact tQ _) (by exact Av rfl)) ?_;refine Be (D':=1237940039285380274899124223) 89 Y rfl rfl rfl Wh (AY (cs:=#[_,_,_,_,_,_,_,_,_,_,_,_,_,_,_]) isAgg53 sizeOf53 Y (by exact tQ _) (by exact Av rfl)) ?_;refine Yw 90 2475880078570760549798248447 rfl (Zu [_,_] Y call28 Y rfl (mO hzo1 hzo2)) ?_;rintro _ _ ⟨rfl,rfl⟩;rw [decide_eq_false sm2];refine Ag (D':=4951760157141521099596496895) 91 Y rfl rfl rfl (CZ Y) ?_;refine Zi 9903520314283042199192993791 92 rfl (AL Y Y)<|Zi 19807040628566084398385987583 93 rfl (AJ Y) ?_;refine CJ (t:=142) Y (fun k15=>?_) (fun k15=>?_)
               ·
                first|rw [decide_eq_true k15]|rw [k15]|skip
                refine Ag (D':=39614081257132168796771975167) 94 Y rfl rfl rfl (AJ Y) ?_;refine Ag (D':=79228162514264337593543950335) 95 Y rfl rfl rfl (C8 (n:=50) Y Y) ?_;refine Zi 158456325028528675187087900671 96 rfl (AL Y Y)<|Zi 316912650057057350374175801343 97 rfl (Ay Y)<|Am ?_;refine Zn [0] ?_;refine Zx<|A9 ?_;refine AC rfl results11 Y (by exact ⟨rfl,rfl⟩)
               first|rw [decide_eq_false k15]|rw [k15]|skip
               cases k15
              first|rw [decide_eq_false k14]|rw [k14]|skip
              cases k14
             first|rw [decide_eq_false k13]|rw [k13]|skip
             cases k13
            first|rw [decide_eq_false k12]|rw [k12]|skip
            cases k12
           first|rw [decide_eq_false k11]|rw [k11]|skip
           cases k11
          first|rw [decide_eq_false k10]|rw [k10]|skip
          cases k10
         first|rw [decide_eq_false k9]|rw [k9]|skip
         exact absurd hu2 k9
        first|rw [decide_eq_false k8]|rw [k8]|skip
        exact absurd hs2 k8
       first|rw [decide_eq_false k7]|rw [k7]|skip
       exact absurd hv2 k7
      first|rw [decide_eq_false k6]|rw [k6]|skip
      exact absurd hu1 k6
     first|rw [decide_eq_false k5]|rw [k5]|skip
     exact absurd hs1 k5
    first|rw [decide_eq_false k4]|rw [k4]|skip
    exact absurd hv1 k4
   first|rw [decide_eq_false k3]|rw [k3]|skip
   cases k3
  first|rw [decide_eq_false k2]|rw [k2]|skip
  cases k2
 first|rw [decide_eq_false k1]|rw [k1]|skip
 cases k1
theorem nT{A B M:List AR}{va vb:Value}{x y:CO}(ha:Dn (A++M) va x.rows)(hb:Dn (B++M) vb y.rows):Aw Tryz.prog 31 #[.agg #[va,I4 x.val,.bool x.fnd],.agg #[vb,I4 y.val,.bool y.fnd]] [A,B,M] (.bool (decide (x=y))):=by
 refine ED (Mf (ha.mono (M':=A++(B++M)) (fun c hc=>by rcases u7.1 hc with h9|h9;exact u6 _ h9;exact tZ _ (tZ _ h9))) (hb.mono (fun c hc=>tZ A hc))) (by simp) ?_;rintro r H' ⟨rfl,rfl⟩;exact ⟨_,⟨rfl,rfl⟩,by simp⟩
theorem ed{A B:List AR}{va vb:Value}{x y:CO}(ha:Dn A va x.rows)(hb:Dn B vb y.rows):Aw Tryz.prog 31 #[.agg #[va,I4 x.val,.bool x.fnd],.agg #[vb,I4 y.val,.bool y.fnd]] [A,B] (.bool (decide (x=y))):=
 Tq (Mf (ha.mono (fun c hc=>u6 B hc)) (hb.mono (fun c hc=>tZ A hc)))
theorem Yn{l:List Bt}(hl:DZ l)(h20:l.length≤20){a b:Nat}(hab:a≤b)(hb:b≤l.length){q:QM}(hq:BN q)(h:De l a b q=none):a<b:=by
 rcases uI a b with h9|h9
 · exact h9
 · exfalso
   obtain rfl:a=b:=by omega
   have hst:=F3 (hl.rows a hb).1 (hl.rows a hb).2 (hl.rowsOk a hb) hq (Em hl h20 hb q);unfold De at h;rw [Ik hst (by rw [OB hb];omega)]at h;unfold ER at h;rw [xM,uo]at h;cases h
theorem Ws(rs:List AP)(q:QM):(Cy rs q).rows.length≤2*rs.length:=by
 have h1:(CQ rs q).length≤rs.length:=(@K8 rs q.tb q.cl.toNat q.lo q.hi).1;have h2:=Qr q (CQ rs q) (FK rs q.ot)
 unfold Cy F8;split
 · simp
 · split
   · simp
   · split
     · rw [show(EJ (fun a b=>decide (a<b)) (Ce q (CQ rs q))).rows=[] from Ls (fun a b=>decide (a<b)) (Ce q (CQ rs q)) CO.none];simp
     · split
       · rw [show(EJ (fun a b=>decide (b<a)) (Ce q (CQ rs q))).rows=[] from Ls (fun a b=>decide (b<a)) (Ce q (CQ rs q)) CO.none];simp
       · split<;>(simp only;omega)
set_option maxHeartbeats 4000000 in
theorem YX{M:List AR}{v:Value}{xs:List (List Int)}(hX:Nk M v xs)(q0 q1 q2 q3 q4 cb cu:Int)(hq01:-9223372036854775808≤q0)(hq02:q0≤9223372036854775807)(hq11:-9223372036854775808≤q1)(hq12:q1≤9223372036854775807)(hq21:-9223372036854775808≤q2)(hq22:q2≤9223372036854775807)(hq31:-9223372036854775808≤q3)(hq32:q3≤9223372036854775807)(hq41:-9223372036854775808≤q4)(hq42:q4≤9223372036854775807)(hcb1:-9223372036854775808≤cb)(hcb2:cb≤9223372036854775807)(hcu1:-9223372036854775808≤cu)(hcu2:cu≤9223372036854775807)(tw:Value)(Tg:TypeId)(zg:Nat×Nat):Aw Tryz.prog 7 #[.agg #[v,I4 q0,I4 q1,I4 q2,I4 q3,I4 q4,I4 cb,I4 cu,tw]] [[(1,.cells (Cw.map Bn).toArray Tg zg)],M] (.bool true):=by
 have hml:=mL;refine Se func7 ntmps7 [0] ?_;intro u R;refine Zq<|Zg<|Ze (Bx #[v,I4 q0,I4 q1,I4 q2,I4 q3,I4 q4,I4 cb,I4 cu,tw]) ?_;rintro _ _ ⟨bc,rfl,rfl⟩;refine Za Y<|Z0<|Zx<|Zq<|Zg<|Xr [] Y call11 Y rfl (oo Tg zg) ?_;refine Za Y<|Z0<|Zx<|Zq<|Zg<|Zo Wh (AY (cs:=#[_,_,_,_,_,_,_,_,_]) isAgg26 sizeOf26 Y (by exact tQ _) (by exact Av rfl)) ?_;refine Zc [_] Y call12 Y rfl (Vn hX q0 q1 q2 q3 q4 cb cu hq01 hq02 hq11 hq12 hq21 hq22 hq31 hq32 hq41 hq42 hcb1 hcb2 hcu1 hcu2 tw) ?_;rintro _ _ ⟨_,⟨l,p,cap,s,q,a,b,hlog,hll,hRI,hq,hab,hb,rfl,rfl⟩,rfl⟩;obtain ⟨p9,cap9,e9,⟨hl1,hl2⟩,hgl⟩:=id hRI;injection e9 with e91 e92 e93
 subst e91 e93;refine Zm Y<|Zd Y rfl<|Zd Y rfl<|Zd Y rfl<|Zd Y rfl<|Ze (Al zeroValue30 #[_,_,_,_,_,_,_]) ?_;rintro _ _ ⟨bq,rfl,rfl⟩;refine Za Y<|Xe (Xw sizeOf30 #[I4 q.kd,I4 q.tb,I4 q.cl,I4 q.lo,I4 q.hi,I4 q.bq,I4 q.ot]) ?_;refine Za Y<|Za Y<|Z0<|Zn [3,4,5,6,7] ?_;refine Zx<|Zq<|Zg<|Zm Y<|Zm Y<|Zc [_,_] Y call13 Y rfl (kw hRI hlog (by omega) a (by omega)) ?_;rintro _ _ ⟨_,⟨v1,s1,rfl,hS1,rfl⟩,rfl⟩;obtain ⟨hs1,hn1⟩:=hlog.rows a (by omega);have hok1:=hlog.rowsOk a (by omega)
 have hev1:=Ws (Bc (l.take a)) q;obtain ⟨R1,hR1⟩:∃x,x=Cy (Bc (l.take a)) q:=⟨_,rfl⟩;rw [←hR1]at hev1;refine Zm Y<|Zd Y rfl<|Zd Y rfl<|Za Y<|Za Y<|Z0<|Zx<|Zq<|Zg<|Zm Y<|Zm Y<|Zc [_,_] Y call13 Y rfl (kw hRI hlog (by omega) b (by omega)) ?_;rintro _ _ ⟨_,⟨v2,s2,rfl,hS2,rfl⟩,rfl⟩;obtain ⟨hs2,hn2⟩:=hlog.rows b (by omega);have hok2:=hlog.rowsOk b (by omega)
 have hev2:=Ws (Bc (l.take b)) q;obtain ⟨R2,hR2⟩:∃x,x=Cy (Bc (l.take b)) q:=⟨_,rfl⟩;rw [←hR2]at hev2;refine Zm Y<|Zd Y rfl<|Zd Y rfl<|Za Y<|Za Y<|Z0<|Zn [3,4,5,6,7,8,9,10,11] ?_;refine Zx<|Zq<|Zq<|Zg<|Zm Y<|Zv (DN (n:=0) Y Y)<|Zm Y ?_;refine Ai (t:=45) Y rfl (fun k1=>?_) (fun k1=>?_)
 ·
  exact absurd rfl k1
 refine Zf Y Y<|Yg (DN (n:=0) Y Y)<|Zv (AA Y Y)<|Z0<|Zx ?_;refine Ao Y (fun k2=>?_) (fun k2=>?_)
 ·
  exact absurd rfl k2
 refine AB<|Zx<|Zq<|Zg<|Zm Y<|Zo Wh (AY (cs:=#[_,_,_,_,_,_,_]) isAgg30 sizeOf30 Y (by exact tQ _) (by exact Av rfl)) ?_;refine Zc [_,_] Y call15 Y rfl (jN _ _ _ _ hS1 hs1 hn1 hok1 q hq (Em hlog hll (by omega) q) Tg zg) ?_;rintro _ _ ⟨_,⟨vo,mem,rfl,hRP,rfl⟩,rfl⟩;obtain ⟨L,hL⟩:∃L,L=Ef (Bc (l.take a)) q:=⟨_,rfl⟩;have hst:=F3 hs1 hn1 hok1 hq (Em hlog hll (by omega:a≤l.length) q)
 have hmk:=Jq (Bc (l.take a)) q;have hscan:=Em hlog hll (by omega:a≤l.length) q
 have hbt:De l a b q=EO q (a:Int) L (ER l a b):=by unfold De;rw [←hL]
 rw [←hL]at hRP hst hmk;rw [←hR1]at hst;obtain ⟨pg,cg,rfl,hg1,hg2⟩:=hRP.form;refine Zm Y<|Zd Y rfl<|Zd Y rfl<|Za Y<|Za Y<|Z0<|Zn [3,4,5,6,7,8,10,12,13] ?_;refine Zx<|Zq<|Zg<|Zo Wh (AY (cs:=#[_,_,_,_,_,_,_]) isAgg30 sizeOf30 Y (by exact tQ _) (by exact Av rfl)) ?_;refine Zm Y<|Zc [_,_] Y call23 Y rfl (ZM hRP q hst) ?_;rintro _ _ ⟨_,⟨w4,m4,rfl,r4,rfl⟩,rfl⟩;obtain ⟨g4,c4,rfl⟩:=r4.form;have hU4:=D5 r4 (by omega)
 refine Zm Y<|Zd Y rfl<|Zd Y rfl<|Ze (Al zeroValue51 #[_,_,_]) ?_;rintro _ _ ⟨b4,rfl,rfl⟩;refine Xe (Xw sizeOf51 #[.slice g4 R1.rows.length c4,I4 R1.val,.bool R1.fnd]) ?_;refine Za Y<|Z0<|Zx<|Zq<|Zg<|Zm Y<|Zo Wh (AY (cs:=#[_,_,_,_,_,_,_]) isAgg30 sizeOf30 Y (by exact tQ _) (by exact Av rfl)) ?_;refine Zc [_,_] Y call33 Y rfl (ZY _ _ _ _ hS1 hok1 q hq) ?_;rintro _ _ ⟨_,⟨w5,m5,rfl,r5,rfl⟩,rfl⟩;rw [←hR1]at r5⊢;obtain ⟨g5,c5,rfl⟩:=r5.form;have hU5:=D5 r5 (by omega)
 refine Zm Y<|Zd Y rfl<|Zd Y rfl<|Ze (Al zeroValue51 #[_,_,_]) ?_;rintro _ _ ⟨b5,rfl,rfl⟩;refine Xe (Xw sizeOf51 #[.slice g5 R1.rows.length c5,I4 R1.val,.bool R1.fnd]) ?_;refine Za Y<|Z0<|Zn [3,4,5,6,7,10,12,13,14,15,16,17] ?_;refine Zx<|Zq<|Zq<|Zg<|Zm Y<|Zv (DN (n:=0) Y Y)<|Zm Y ?_;refine Ai (t:=69) Y rfl (fun k3=>?_) (fun k3=>?_)
 ·
  exact absurd rfl k3
 refine Zf Y Y<|Yg (CZ Y)<|Zv (AA Y Y)<|Zm Y ?_;refine Ak (t:=73) Y rfl (fun k4=>?_) (fun k4=>?_)
 ·
  cases k4
 refine Zf Y Y<|Yg (DN (n:=0) Y Y)<|Zv (AA Y Y)<|Zm Y ?_;refine Ai (t:=77) Y rfl (fun k5=>?_) (fun k5=>?_)
 ·
  exact absurd rfl k5
 refine DC Y Wh (AY (cs:=#[_,_,_]) isAgg51 sizeOf51 Y (by exact tQ _) (by exact Av rfl)) rfl rfl ?_;refine DC Y Wh (AY (cs:=#[_,_,_]) isAgg51 sizeOf51 Y (by exact tQ _) (by exact Av rfl)) rfl rfl ?_;refine Xr [_,_] Y call31 Y rfl (ed hU4 hU5) ?_;rw [decide_eq_true (rfl:R1=R1)];refine Yg (CZ Y)<|Zv (AA Y Y)<|Z0<|Zn [3,4,5,6,7,10,12,82] ?_;refine Zx ?_;refine Af Y (fun k6=>?_) (fun k6=>?_)
 ·
  cases k6
 refine AB<|Zx<|Zq<|Zg<|Zm Y<|Zc [_] Y call22 Y rfl (Su hRI hlog (by omega)) ?_;rintro _ _ ⟨_,⟨sh,hsh,rfl⟩,rfl⟩;obtain ⟨gh,ch,curh,zh,rfl,rfl,hw⟩:=WQ hsh (by omega);have hwa:=hw a (by omega)
 have hwb:=hw b (by omega);obtain ⟨h1,hh1⟩:∃h,h=EL l a:=⟨_,rfl⟩;obtain ⟨h2,hh2⟩:∃h,h=EL l b:=⟨_,rfl⟩;rw [←hh1]at hwa;rw [←hh2]at hwb;refine Za Y<|Z0<|Zx<|Zb [4,12,3,5,6,7,10,18] ?_;refine CU (e0:=[(4,_),(12,_)]) (H0:=[mem,s]) (fun e H=>∃(z:K5) (s9:List AR) (t9:Bool) (bz:Nat),((t9=true∧EO q (a:Int) L (ER l a b)=some z.a∧z.ok (s9++mem++s))∨(t9=false∧EO q (a:Int) L (ER l a b)=none))∧e=[(19,I5 bz),(20,.bool t9)]∧H=[[(bz,.cells #[I4 z.a.q.kd,I4 z.a.q.tb,I4 z.a.q.cl,I4 z.a.q.lo,I4 z.a.q.hi,I4 z.a.q.bq,I4 z.a.q.ot,.slice z.rp z.a.res.rows.length z.rc,I4 z.a.res.val,.bool z.a.res.fnd,I4 z.a.since,I4 z.a.until_,I4 z.a.base,.slice z.gp z.a.ranges.length z.gc,.slice z.cp z.a.recs.length z.cc] 53 (0,0))],s9,mem,s]) Wp ?hx_1 ?hy_1
 case hx_1=>
  refine BJ (n:=15) (0::0::0::7::0::0::0::112::255::511::1023::1023::0::6143::16383::[]) 12544 (by kernel_rfl) (by kernel_rfl) rfl ?_;refine DU (D':=1) 0 rfl rfl rfl Wh (AY (cs:=#[_,_,_,_,_,_,_]) isAgg30 sizeOf30 Y (by exact tQ _) (by exact Av rfl)) ?_;refine Zi 3 1 rfl (AJ Y)<|Zi 7 2 rfl (AJ Y)<|Zi 15 3 rfl (BK (vs:=[(0,.agg #[I4 q.kd,I4 q.tb,I4 q.cl,I4 q.lo,I4 q.hi,I4 q.bq,I4 q.ot]),(2,I4 (a:Int)),(3,.slice pg L.length cg)]) (cs:=#[I4 q.kd,I4 q.tb,I4 q.cl,I4 q.lo,I4 q.hi,I4 q.bq,I4 q.ot,I4 0,I4 (a:Int),.slice pg L.length cg]) Y (Aa (pl:=#[(0,7),(7,1),(8,1),(9,1)]) zeroValue57 underlying57 (fun _=>by kernel_rfl) (by kernel_rfl))) ?_;refine Zi 31 4 rfl (AJ Y)<|Zi 63 5 rfl (AJ Y)<|Zi 127 6 rfl (AJ Y) ?_
  (refine E8 (D':=255) 7 (JX underlying28 sizeOf73 Y Y Y ?_ ?_) ?_;(focus (omega));(focus (omega)))
  refine Zz (l:=[8,12]) ?_;refine Zy 255 511 [0] [false] [] rfl Y rfl rfl rfl rfl (Zw [_,_] Y call18 Y rfl (K3 q 0 (a:Int) (by omega) (hRP.mono (fun c hc=>u6 s hc)) (by omega) hst (Ex (Jf hRI hab hb) (fun c hc=>tZ mem hc)) (Iu hlog a b))) ?hk_2 Ck ?hl_2
  case hk_2=>
   rintro _ _ ⟨_,⟨z,s9,t9,hz,rfl,rfl⟩,rfl⟩;refine ⟨Ad,?_⟩;refine Zi 1023 9 rfl (AJ Y)<|Zi 2047 10 rfl (CP Y rfl)<|Zi 4095 11 rfl (CP Y rfl)<|Zz (l:=[12]) ?_;refine Zy 0 8191 [] [] [] rfl Y rfl rfl rfl rfl (Al zeroValue53 #[_,_,_,_,_,_,_,_,_,_,_,_,_,_,_]) ?hk_3 (fun _ _ h=>h.elim) ?hl_3
   case hk_3=>
    rintro _ _ ⟨bz,rfl,rfl⟩;refine ⟨Ad,?_⟩;refine Yw 13 16383 rfl (Xw sizeOf53 #[I4 z.a.q.kd,I4 z.a.q.tb,I4 z.a.q.cl,I4 z.a.q.lo,I4 z.a.q.hi,I4 z.a.q.bq,I4 z.a.q.ot,.slice z.rp z.a.res.rows.length z.rc,I4 z.a.res.val,.bool z.a.res.fnd,I4 z.a.since,I4 z.a.until_,I4 z.a.base,.slice z.gp z.a.ranges.length z.gc,.slice z.cp z.a.recs.length z.cc]) ?_;rintro _ _ ⟨rfl,rfl⟩;refine Zi 32767 14 rfl (Ay Y)<|Am ?_;refine Zn [19,20,3,5,6,7,10,18] ?_;refine BA (e':=[(19,_),(20,_)]) (by exact ⟨z,s9,t9,bz,hz,rfl,rfl⟩)
   exact Ar
  refine Zy 0 4351 [0] [true] [(0,(_,_))] rfl Y rfl rfl rfl rfl (Al zeroValue53 #[_,_,_,_,_,_,_,_,_,_,_,_,_,_,_]) ?hk_6 (fun _ _ h=>h.elim) ?hl_6
  case hk_6=>
   rintro _ _ ⟨bz,rfl,rfl⟩;refine ⟨Zk (Ad),?_⟩;refine Zz (l:=[8]) ?_;refine Zy 255 4607 [0] [false] [] rfl Y rfl rfl rfl rfl (Zw [_,_] Y call18 Y rfl (K3 q 0 (a:Int) (by omega) (hRP.mono (fun c hc=>u6 s hc)) (by omega) hst (Ex (Jf hRI hab hb) (fun c hc=>tZ mem hc)) (Iu hlog a b))) ?hk_7 Ck ?hl_7
   case hk_7=>
    rintro _ _ ⟨_,⟨z,s9,t9,hz,rfl,rfl⟩,rfl⟩;refine ⟨Ad,?_⟩;refine Zi 5119 9 rfl (AJ Y)<|Zi 6143 10 rfl (CP Y rfl)<|Zi 8191 11 rfl (CP Y rfl)<|Zz (l:=[13]) ?_;refine Zy 6143 16383 [] [] [] rfl Y rfl rfl rfl rfl (Xw sizeOf53 #[I4 z.a.q.kd,I4 z.a.q.tb,I4 z.a.q.cl,I4 z.a.q.lo,I4 z.a.q.hi,I4 z.a.q.bq,I4 z.a.q.ot,.slice z.rp z.a.res.rows.length z.rc,I4 z.a.res.val,.bool z.a.res.fnd,I4 z.a.since,I4 z.a.until_,I4 z.a.base,.slice z.gp z.a.ranges.length z.gc,.slice z.cp z.a.recs.length z.cc]) ?hk_8 (fun _ _ h=>h.elim) ?hl_8
    case hk_8=>
     rintro _ _ ⟨rfl,rfl⟩;refine ⟨Ad,?_⟩;refine Zi 32767 14 rfl (Ay Y)<|Am ?_;refine Zn [19,20,3,5,6,7,10,18] ?_;refine BA (e':=[(19,_),(20,_)]) (by exact ⟨z,s9,t9,bz,hz,rfl,rfl⟩)
    exact Ar
   exact Ar
  exact Ar
 rintro _ _ ⟨z,s9,t9,bz,hz,rfl,rfl⟩;refine JQ (s1:=s9) (s2:=mem) Wo Wo ?_;rw [←hbt]at hz;refine Zq<|Zq<|Zg<|Zm Y<|Zv (CZ Y)<|Z0<|Zx ?_;refine Af Y (fun k7=>?_) (fun k7=>?_)
 ·
  obtain rfl:t9=false:=by simpa using k7
  have hno:De l a b q=none:=by rcases hz with⟨h9,_⟩|⟨_,h9⟩;cases h9;exact h9
  have hlt9:a<b:=Yn hlog hll hab hb hq hno;have hk9:5≤q.kd:=by rcases Int.lt_or_le q.kd 5 with h9|h9;exact absurd hno (LG hlog hll hab hb hq (by have:=hq.2.2.2;omega));exact h9
  refine Zq<|Zg<|Zm Y<|Zm Y ?_;refine Ak (t:=100) Y rfl (fun k8=>?_) (fun k8=>?_)
  ·
   refine Zf Y Y<|Zf Y Y<|Yg (D7 Y Y)<|Zv (AL Y Y)<|Zm Y ?_;refine Ai (t:=105) Y rfl (fun k9=>?_) (fun k9=>?_)
   ·
    refine Yf 0 underlying30 rfl rfl sizeOf3 Y<|Yl isAgg3 Y ?_;refine Yg (GN Y Y)<|Zv (AL Y Y)<|Za Y<|Z0<|Zn [2] ?_;refine Zx<|A9<|Zt ?_;refine AC rfl results7 Y (by exact ⟨by rw [decide_eq_true (by omega)],rfl⟩)
   exfalso;omega
  cases k8
 obtain rfl:t9=true:=by simpa using k7
 obtain ⟨hb1,hzo⟩:De l a b q=some z.a∧z.ok (s9++mem++s):=by rcases hz with⟨_,h9⟩|⟨h9,_⟩;exact h9;cases h9
 obtain ⟨f1,f2,f3,f4,f5⟩:=LH hlog hll hab hb hq hb1;obtain ⟨e1,_⟩:=Fw hlog hll hab hb hq hb1;have er:z.a.res=R2:=by rw [e1,hR2]
 have ck:=LJ hlog hll hab hb hq hb1;rw [←hh1,←hh2]at ck;refine AB<|Zx<|Zq<|Zg<|Zm Y<|Zo Wh (AY (cs:=#[_,_,_,_,_,_,_]) isAgg30 sizeOf30 Y (by exact tQ _) (by exact Av rfl)) ?_;refine Zc [_,_] Y call33 Y rfl (ZY _ _ _ _ hS2 hok2 q hq) ?_;rintro _ _ ⟨_,⟨w6,m6,rfl,r6,rfl⟩,rfl⟩;rw [←hR2]at r6⊢;obtain ⟨g6,c6,rfl⟩:=r6.form;have hU6:=D5 r6 (by omega)
 refine Zm Y<|Zd Y rfl<|Zd Y rfl<|Ze (Al zeroValue51 #[_,_,_]) ?_;rintro _ _ ⟨b6,rfl,rfl⟩;refine Xe (Xw sizeOf51 #[.slice g6 R2.rows.length c6,I4 R2.val,.bool R2.fnd]) ?_;refine Za Y<|Z0<|Zx<|Zq<|BJ (n:=24) (0::1::3::7::15::31::63::127::63::511::1023::2047::4095::4095::16383::32767::4095::4095::200703::462847::4095::2097151::4194303::8388607::[]) 2097664 (by kernel_rfl) (by kernel_rfl) rfl ?_;refine Zi 1 0 rfl (AJ Y)<|Zi 3 1 rfl (AJ Y) ?_;refine CJ (t:=117) Y (fun j1=>?_) (fun j1=>?_)
 ·
  first|rw [decide_eq_true j1]|rw [j1]|skip
  refine Ag (D':=7) 2 Y rfl rfl rfl (AJ Y) ?_;refine Ag (D':=15) 3 Y rfl rfl rfl (C8 (n:=0) Y Y) ?_;refine Zi 31 4 rfl (AL Y Y)<|Zi 63 5 rfl (AJ Y) ?_;refine CR (t:=121) Y (fun j2=>?_) (fun j2=>?_)
  ·
   first|rw [decide_eq_true j2]|rw [j2]|skip
   refine Ag (D':=127) 6 Y rfl rfl rfl (AX (off:=7) underlying53 rfl rfl sizeOf51 Y) ?_;refine Be (D':=255) 7 Y rfl rfl rfl Wh (AY (cs:=#[_,_,_]) isAgg51 sizeOf51 Y (by(simp;done)) (by first|exact rfl|exact Av rfl)) ?_;refine Be (D':=511) 8 Y rfl rfl rfl Wh (AY (cs:=#[_,_,_]) isAgg51 sizeOf51 Y (by exact tQ _) (by first|exact rfl|exact Av rfl)) ?_;refine Yw 9 1023 rfl (Zu [_,_] Y call31 Y rfl (nT hzo.1 (hU6.mono (fun c hc=>u6 s hc)))) ?_;rintro _ _ ⟨rfl,rfl⟩;rw [decide_eq_true er];refine Zi 2047 10 rfl (AL Y Y)<|Zi 4095 11 rfl (AJ Y) ?_;refine CJ (t:=127) Y (fun j3=>?_) (fun j3=>?_)
   ·
    first|rw [decide_eq_true j3]|rw [j3]|skip
    refine Ag (D':=8191) 12 Y rfl rfl rfl (AJ Y) ?_;refine Ag (D':=16383) 13 Y rfl rfl rfl (AJ Y) ?_;refine Ag (D':=32767) 14 Y rfl rfl rfl (AZ underlying60 sizeOf67 Y Y (by omega)) ?_;refine Be (D':=65535) 15 Y rfl rfl rfl Wh (AY (cs:=#[I4 h1.p,.string (str h1.ch),.string (str h1.st)]) isAgg67 sizeOf67 Y (hwa).1 (hwa).2) ?_;refine Ag (D':=131071) 16 Y rfl rfl rfl (AJ Y) ?_;refine Ag (D':=262143) 17 Y rfl rfl rfl (AJ Y) ?_;refine Ag (D':=524287) 18 Y rfl rfl rfl (AZ underlying60 sizeOf67 Y Y (by omega)) ?_;refine Be (D':=1048575) 19 Y rfl rfl rfl Wh (AY (cs:=#[I4 h2.p,.string (str h2.ch),.string (str h2.st)]) isAgg67 sizeOf67 Y (hwb).1 (hwb).2) ?_;refine Be (D':=2097151) 20 Y rfl rfl rfl Wh (AY (cs:=#[_,_,_,_,_,_,_,_,_,_,_,_,_,_,_]) isAgg53 sizeOf53 Y (by exact tQ _) (by first|exact rfl|exact Av rfl)) ?_;refine Yw 21 4194303 rfl (Zu [_,_,_] Y call26 Y rfl (LF h1 h2 hzo f1 f2 f3 f4 f5 Tg zg)) ?_;rintro _ _ ⟨rfl,rfl⟩;rw [decide_eq_true ck];refine Zi 8388607 22 rfl (AL Y Y)<|Zi 16777215 23 rfl (Ay Y)<|Am ?_;refine Zn [2] ?_;refine Zx<|A9 ?_;refine AC rfl results7 Y (by exact ⟨rfl,rfl⟩)
   first|rw [decide_eq_false j3]|rw [j3]|skip
   cases j3
  first|rw [decide_eq_false j2]|rw [j2]|skip
  exact absurd rfl j2
 first|rw [decide_eq_false j1]|rw [j1]|skip
 cases j1
end Go.Proofs.YtkdgffcfmgmemaaGreatDoor
namespace Go.Proofs.YtkdgffcfmgmemaaGreatDoor
open Go.Proofs.Tryz
open Go Go.RowKit Gw
set_option maxRecDepth 100000
attribute [local irreducible] Gw.At Gw.Nx Gw.Ops
open Go.ChangeShapes Go.WideShapes Go.Deep
theorem dO{l:List Value}(h:l.length=5):∃a b c d e,l=[a,b,c,d,e]:=by
 match l,h with
 |[a,b,c,d,e],_=>exact ⟨a,b,c,d,e,rfl⟩
theorem dF{H:Type}{enc:TypeId×Value→H}{W:World}{base:Nat}{held:Bool}{fuel:Nat}{l:List Value}{x:DataW H×List MemPlace}(h:DataW.trod enc Tryz.prog W base (fun _=>true) held fuel 23 l=some x)(hl:l.length=5):
 ∃a b c d e:Int,l=[I4 a,I4 b,I4 c,I4 d,I4 e]∧(-9223372036854775808≤a∧a≤9223372036854775807)∧(-9223372036854775808≤b∧b≤9223372036854775807)∧(-9223372036854775808≤c∧c≤9223372036854775807)∧(-9223372036854775808≤d∧d≤9223372036854775807)∧(-9223372036854775808≤e∧e≤9223372036854775807):=by
 obtain ⟨ys,m,_,_,_,hyl,hf⟩:=DataW.trod_array underlying23 h;have hj:∀j,j<5→∃n:Int,l[j]?=some (I4 n)∧-9223372036854775808≤n∧n≤9223372036854775807:=fun j hj=>by
  have f:=hf j hj;rw [rU,wR,tF (by omega)]at f;have hj2:j<l.length:=by omega
  have e:(l.drop j).take 1=[l[j]]:=by rw [vL hj2];rfl
  rw [e]at f;obtain ⟨k,hk,_,hkw⟩:=DataW.trod_int underlying3 f;injection hk with hk _
  exact ⟨k,by rw [tF hj2,hk],bounds_i64 hkw⟩
 obtain ⟨v0,v1,v2,v3,v4,rfl⟩:=dO hl;obtain ⟨a,ha,ha2⟩:=hj 0 (by decide);obtain ⟨b,hb,hb2⟩:=hj 1 (by decide);obtain ⟨c,hc,hc2⟩:=hj 2 (by decide);obtain ⟨d,hd,hd2⟩:=hj 3 (by decide);obtain ⟨e,he,he2⟩:=hj 4 (by decide);simp at ha hb hc hd he;subst ha hb hc hd he;exact ⟨a,b,c,d,e,rfl,ha2,hb2,hc2,hd2,he2⟩
theorem Y4{P:Program}{w:World}{r:Reach}{base:Nat}{t:TypeId}{fs:Array Field}{v:Value}(hu:P.underlying t=some (.struct fs))(h:Value.okWide P w r base t v):∃cs,v= .agg cs∧cs.size=P.cellsOf t:=by
 unfold Value.okWide at h;rw [hu]at h;obtain ⟨cs,rfl,h1,_⟩:=h;exact ⟨cs,rfl,h1⟩
theorem qB:Tryz.prog.cellsOf 26=9:=by kernel_rfl
open Go.ChangeShapes Go.WideShapes Go.Deep
section
variable{H:Type}{enc:TypeId×Value→H}{W:World}{base:Nat}{held:Bool}
theorem Y3{Tg:TypeId}{zg:Nat×Nat}(h4:W.heap[1]?=some (.cells (Cw.map Bn).toArray Tg zg)){fuel:Nat}{cs:List Value}{x:DataW H×List MemPlace}(h:DataW.trod enc Tryz.prog W base (fun _=>true) held fuel 26 cs=some x)(hl:cs.length=9):
 ∃(p:Option Addr) (cap:Nat) (ys:List (List Int)) (n0 n1 n2 n3 n4 n5 n6:Int) (tw:Value),cs=[.slice p ys.length cap,I4 n0,I4 n1,I4 n2,I4 n3,I4 n4,I4 n5,I4 n6,tw]∧Nk (Om W [1]) (.slice p ys.length cap) ys∧(-9223372036854775808≤n0∧n0≤9223372036854775807)∧(-9223372036854775808≤n1∧n1≤9223372036854775807)∧(-9223372036854775808≤n2∧n2≤9223372036854775807)∧(-9223372036854775808≤n3∧n3≤9223372036854775807)∧(-9223372036854775808≤n4∧n4≤9223372036854775807)∧(-9223372036854775808≤n5∧n5≤9223372036854775807)∧(-9223372036854775808≤n6∧n6≤9223372036854775807):=by
 obtain ⟨xs,m,_,hx,hcl,hxl,hf⟩:=DataW.trod_struct underlying26 h
 match cs,hl with
 |[a0,a1,a2,a3,a4,a5,a6,a7,a8],_=>
  have hy:∀i,i<5→∃y,xs[i]?=some y:=fun i hi=>⟨_,tF (by rw [hxl];exact hi)⟩;obtain ⟨y0,hy0⟩:=hy 0 (by decide);obtain ⟨y1,hy1⟩:=hy 1 (by decide);obtain ⟨y2,hy2⟩:=hy 2 (by decide);obtain ⟨y3,hy3⟩:=hy 3 (by decide);obtain ⟨u,g,hu,hm⟩:=W9 h4 ((hf 0 _ rfl).trans hy0);obtain ⟨n0,n1,n2,n3,n4,e1,b0,b1,b2,b3,b4⟩:=dF ((hf 1 _ rfl).trans hy1) rfl;obtain ⟨n5,e5,_,b5⟩:=DataW.trod_int underlying3 ((hf 2 _ rfl).trans hy2);obtain ⟨n6,e6,_,b6⟩:=DataW.trod_int underlying3 ((hf 3 _ rfl).trans hy3);obtain ⟨p,cap,e,hz⟩:=id hm;subst e;change [a0]=[_]at hu;change [a1,a2,a3,a4,a5]=[_,_,_,_,_]at e1;change [a6]=[_]at e5;change [a7]=[_]at e6;injection hu with hu
  injection e1 with e1 e2
  injection e2 with e2 e3
  injection e3 with e3 e4
  injection e4 with e4 e7
  injection e7 with e7
  injection e5 with e5
  injection e6 with e6
  subst hu e1 e2 e3 e4 e7 e5 e6;exact ⟨p,cap,g,n0,n1,n2,n3,n4,n5,n6,a8,rfl,hm,b0,b1,b2,b3,b4,bounds_i64 b5,bounds_i64 b6⟩
end
end Go.Proofs.YtkdgffcfmgmemaaGreatDoor
namespace Go.Proofs.YtkdgffcfmgmemaaGreatDoor
open Go.Proofs.Tryz
open Go Go.RowKit Gw
set_option maxRecDepth 100000
attribute [local irreducible] Gw.At Gw.Nx Gw.Ops
theorem Rt(p:Option Addr)(cap:Nat)(ys:List (List Int))(M:List AR)(hX:Nk M (.slice p ys.length cap) ys)(n0 n1 n2 n3 n4 n5 n6:Int)(hn0:-9223372036854775808≤n0∧n0≤9223372036854775807)(hn1:-9223372036854775808≤n1∧n1≤9223372036854775807)(hn2:-9223372036854775808≤n2∧n2≤9223372036854775807)(hn3:-9223372036854775808≤n3∧n3≤9223372036854775807)(hn4:-9223372036854775808≤n4∧n4≤9223372036854775807)(hn5:-9223372036854775808≤n5∧n5≤9223372036854775807)(hn6:-9223372036854775808≤n6∧n6≤9223372036854775807)(tw:Value)(Tg:TypeId)(zg:Nat×Nat):Aw Tryz.prog 7 #[.agg #[.slice p ys.length cap,I4 n0,I4 n1,I4 n2,I4 n3,I4 n4,I4 n5,I4 n6,tw]] [[(1,.cells (Cw.map Bn).toArray Tg zg)],M] (.bool true):=YX hX n0 n1 n2 n3 n4 n5 n6 hn0.1 hn0.2 hn1.1 hn1.2 hn2.1 hn2.2 hn3.1 hn3.2 hn4.1 hn4.2 hn5.1 hn5.2 hn6.1 hn6.2 tw Tg zg
end Go.Proofs.YtkdgffcfmgmemaaGreatDoor
namespace Go.Proofs.YtkdgffcfmgmemaaGreatDoor
open Go.Proofs.Tryz
open Go Go.RowKit Gw
set_option maxRecDepth 100000
attribute [local irreducible] Gw.At Gw.Nx Gw.Ops
open Go.ChangeShapes Go.WideShapes Go.ChangeAt
theorem Uc{P:Program}{f:FuncId}{fn:Func}{s:ChangeSpec}{c:OpenClaim}(h0:c.wf (OpenSpec.ofChange s)=true)(h1:laidOutB P=true)(h2:mapsRowed P=true)(h3:fn.params.all (P.readableRec ·)=true)(h4:namedTie P c.named s.vars=true)(h5:(c.stops== [])=true)(h6:(P.stops== [])=true)(h7:(c.knobs== [])=true)(h8:(P.stopKnobs== [])=true)(h9:(c.inPlace==P.inPlace f)=true)(h10:(c.unfollowed==P.unfollowed f)=true)(h11:(c.recurses==P.recurses f)=true)(h12:(c.named==P.varsNamed f)=true)(h13:(c.maps==(fn.params.toList++s.plain.varTypes P).any (P.mapsRec ·))=true)(h14:(c.ifaces==(fn.params.toList++s.plain.varTypes P).any (P.ifacesRec ·))=true)(h15:(c.mapsOut==P.mapsAmong fn.resultTypes.toList)=true)(h16:(c.loops==(fn.params.toList++s.plain.varTypes P).any (P.loopsFrom ·))=true)(h17:(c.wideKeys==(fn.params.toList++s.plain.varTypes P++fn.resultTypes.toList).any (P.wideKeysFrom ·))=true)(h18:s.vars.all (P.varReadable ·)=true)(h19:fn.resultTypes.all (fun t=>P.readableRec t&&decide (t<P.types.size))=true)(h20:(c.ifacesOut==fn.resultTypes.toList.any (P.ifacesRec ·))=true)(h21:(c.loopsOut==fn.resultTypes.toList.any (P.loopsFrom ·))=true)(h22:(c.plainKeys==P.plainKeys)=true)(h23:c.shortTexts.isNone=true)(h24:P.stopsHeard=true)(h25:P.mayEnter=true)(h26:(c.lifted==P.liftsFinal)=true)(h27:(P.make==some c.make)=true)(h28:(c.kinds==(if c.domain.isEmpty then []else fn.params.toList.map fun t=>match P.underlying t with|some (.int k)=>some k|_=>none))=true)(h29:(c.pinned==c.pinnedBy)=true)(h30:(c.veiled==(fn.params.toList++s.plain.varTypes P++fn.resultTypes.toList).any (P.veiledRec ·))=true)(h31:c.veiledFits P fn.params.toList (fn.params.toList++s.plain.varTypes P++fn.resultTypes.toList)=true):joinedFacts P f fn s c=true:=by
 unfold joinedFacts;simp only [uE];exact ⟨⟨⟨⟨⟨⟨⟨⟨⟨⟨⟨⟨⟨⟨⟨⟨⟨⟨⟨⟨⟨⟨⟨⟨⟨⟨⟨⟨⟨⟨⟨h0,h1⟩,h2⟩,h3⟩,h4⟩,h5⟩,h6⟩,h7⟩,h8⟩,h9⟩,h10⟩,h11⟩,h12⟩,h13⟩,h14⟩,h15⟩,h16⟩,h17⟩,h18⟩,h19⟩,h20⟩,h21⟩,h22⟩,h23⟩,h24⟩,h25⟩,h26⟩,h27⟩,h28⟩,h29⟩,h30⟩,h31⟩
end Go.Proofs.YtkdgffcfmgmemaaGreatDoor
