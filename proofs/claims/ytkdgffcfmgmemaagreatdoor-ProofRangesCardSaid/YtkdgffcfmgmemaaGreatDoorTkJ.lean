/- The law ProofRanges. -/
/- A case of chapter 11 as an argument. -/
/- A query as an argument. -/
/- ProofRanges as its card wants it. -/
/- The facts that a card wants, one by one. -/
import Derived.Test.YtkdgffcfmgmemaaGreatDoorEz
import Derived.Test.YtkdgffcfmgmemaaGreatDoorPz4
import Derived.Test.YtkdgffcfmgmemaaGreatDoorTk1
import Derived.JoinedOf
set_option linter.unusedVariables false
set_option linter.unusedSimpArgs false
namespace Go.Proofs.YtkdgffcfmgmemaaGreatDoor
open Go.Proofs.Tryz
open Go Go.RowKit Gw
set_option maxRecDepth 100000
attribute [local irreducible] Gw.At Gw.Nx Gw.Ops
theorem TZ{gh:Nat}{c st:List UInt8}{T:TypeId}{z:Nat×Nat}:aT [(gh,.cells #[I4 0,.string (str c),.string (str st)] T z)] (I6 gh [(⟨0,c,st⟩:Cg)].length 1) [⟨0,c,st⟩]:=⟨_,_,rfl,by show 1≤maxLen;decide,fun i h hx=>by
 match i,hx with
 |0,hx=>injection hx with hx;subst hx;exact ⟨gh,0,_,T,z,rfl,.head _,wE rfl,rfl⟩
 |i+1,hx=>simp at hx⟩
theorem aQ(e0 e1 e3:Int)(d:Nat)(hd:d<5):¬BP ⟨e0,e1,0,e3,IntKind.i64.wrap (IntKind.i64.wrap (e3 -1) -(d:Int)),0,0⟩:=fun h=>by
 obtain ⟨h1,h2,h3⟩:=h.2.2.1;simp only at h1 h2 h3;have h4:e3≤1000000000:=Int.le_trans h2 h3
 have e1:IntKind.i64.wrap (e3 -1)=e3 -1:=IntWalk.i64_in _ ⟨by omega,by omega⟩;rw [e1]at h2;have e2:IntKind.i64.wrap (e3 -1 -(d:Int))=e3 -1 -(d:Int):=IntWalk.i64_in _ ⟨by omega,by omega⟩
 rw [e2]at h2;omega
theorem dL{rs:List AQ}{q:QM}{n:Nat}(hn:(Ca rs q).length=n):(¬q.kd=7∧(EJ rs q).length=1)∨(q.kd=7∧(EJ rs q).length=1+n):=by
 unfold EJ;rcases Decidable.em (q.kd=7)with h|h
 · rw [if_pos h,tV,tH];exact .inr ⟨h,by omega⟩
 · rw [if_neg h];exact .inl ⟨h,rfl⟩
set_option maxHeartbeats 2000000 in
theorem iK{M:List AV}{v:Value}{xs:List (List Int)}(hX:Nc M v xs)(q0 q1 q2 q3 q4 cb cu:Int)(hq01:-9223372036854775808≤q0)(hq02:q0≤9223372036854775807)(hq11:-9223372036854775808≤q1)(hq12:q1≤9223372036854775807)(hq21:-9223372036854775808≤q2)(hq22:q2≤9223372036854775807)(hq31:-9223372036854775808≤q3)(hq32:q3≤9223372036854775807)(hq41:-9223372036854775808≤q4)(hq42:q4≤9223372036854775807)(hcb1:-9223372036854775808≤cb)(hcb2:cb≤9223372036854775807)(hcu1:-9223372036854775808≤cu)(hcu2:cu≤9223372036854775807)(tw:Value)(e0 e1 e2 e3 e4 e5 e6:Int)(he41:-9223372036854775808≤e4)(he42:e4≤9223372036854775807)(Tg:TypeId)(zg:Nat×Nat):Au Tryz.prog 10 #[.agg #[v,I4 q0,I4 q1,I4 q2,I4 q3,I4 q4,I4 cb,I4 cu,tw],.agg #[I4 e0,I4 e1,I4 e2,I4 e3,I4 e4,I4 e5,I4 e6]] [[(1,.cells (Ct.map Bn).toArray Tg zg)],M] (.bool true):=by
 have hml:=mL;refine Se func10 ntmps10 [0,1] ?_;intro u R;refine Zq<|Zg<|Ze (Bx #[v,I4 q0,I4 q1,I4 q2,I4 q3,I4 q4,I4 cb,I4 cu,tw]) ?_;rintro _ _ ⟨bc,rfl,rfl⟩;refine Ze (Bx #[I4 e0,I4 e1,I4 e2,I4 e3,I4 e4,I4 e5,I4 e6]) ?_;rintro _ _ ⟨br,rfl,rfl⟩;refine Za Y<|Z0<|Zx<|Zq<|Zg<|Xr [] Y call11 Y rfl (oq Tg zg) ?_;refine Za Y<|Z0<|Zx<|Zq<|Zg<|Zo Wh (Ab (cs:=#[_,_,_,_,_,_,_,_,_]) isAgg26 sizeOf26 Y (by exact tO _) (by exact BA rfl)) ?_;refine Zc [_] Y call12 Y rfl (Vl hX q0 q1 q2 q3 q4 cb cu hq01 hq02 hq11 hq12 hq21 hq22 hq31 hq32 hq41 hq42 hcb1 hcb2 hcu1 hcu2 tw) ?_;rintro _ _ ⟨_,⟨l,p,cap,s,q,a,b,hlog,hll,hRI,hq,hab,hb,rfl,rfl⟩,rfl⟩;obtain ⟨p9,cap9,e9,⟨hl1,hl2⟩,hgl⟩:=id hRI;injection e9 with e91 e92 e93
 subst e91 e93;refine Zm Y<|Zd Y rfl<|Zd Y rfl<|Zd Y rfl<|Zd Y rfl<|Ze (Al zeroValue30 #[_,_,_,_,_,_,_]) ?_;rintro _ _ ⟨bq,rfl,rfl⟩;refine Za Y<|Xe (Xw sizeOf30 #[I4 q.kd,I4 q.tb,I4 q.cl,I4 q.lo,I4 q.hi,I4 q.bq,I4 q.ot]) ?_;refine Za Y<|Za Y<|Z0<|Zn [3,5,6,7,8] ?_;refine Zx<|Zq<|Zg<|Zm Y<|Zm Y<|Zc [_,_] Y call13 Y rfl (oN hRI hlog (by omega) a (by omega)) ?_;rintro _ _ ⟨_,⟨vs,ss,rfl,hS,rfl⟩,rfl⟩;obtain ⟨hs,hn⟩:=hlog.rows a (by omega);have hok:=hlog.rowsOk a (by omega)
 have hscan:=Ff hlog hll (by omega:a≤l.length) q;obtain ⟨sp,hvs⟩:∃sp,vs=I5 sp:=by obtain ⟨sp,mp,es,ck,lm,h9,_⟩:=hS;exact ⟨sp,h9⟩
 subst hvs;refine Zm Y<|Zd Y rfl<|Zd Y rfl<|Za Y<|Za Y<|Z0<|Zx<|Zq<|Zg<|Zm Y<|Zo Wh (Ab (cs:=#[_,_,_,_,_,_,_]) isAgg30 sizeOf30 Y (by exact tO _) (by exact BA rfl)) ?_;refine Zc [_,_] Y call15 Y rfl (jM _ _ _ _ hS hs hn hok q hq hscan Tg zg) ?_;rintro _ _ ⟨_,⟨vo,mem,rfl,hRP,rfl⟩,rfl⟩;obtain ⟨L,hL⟩:∃L,L=EJ (Bb (l.take a)) q:=⟨_,rfl⟩;obtain ⟨hq1,hq2⟩:=iB hs hn hok q hq;have hmany:=dL (rs:=Bb (l.take a)) (q:=q) rfl
 have hver:=TP hs hn hok hq;have hsm:=Ou hs hn q
 rw [←hL]at hRP hmany hver hsm;obtain ⟨pg,cg,rfl,hg1,hg2⟩:=hRP.form;obtain ⟨z0,hz0,hz0k,g,off,cur,T,zz,rfl,hm9,hsz9,hex9⟩:=hRP.at (show L[0]?=some (EI (Bb (l.take a)) q.tb.toNat q.cl.toNat q.lo q.hi) by rw [hL];rfl);rw [←hz0]at hq1 hq2;obtain ⟨n9,hn9⟩:∃n,n=(Dz z0.x).length:=⟨_,rfl⟩;rw [show(Ca (Bb (l.take a)) q).length=n9 by rw [hn9,hq2];rfl]at hmany hscan;refine Zm Y<|Zd Y rfl<|Zd Y rfl<|Za Y<|Za Y<|Z0<|Zn [3,5,7,10,11,12,13] ?_;refine Zx<|Zq<|Zq<|Zg<|Zm Y<|Zv (DJ (n:=0) Y Y)<|Zm Y ?_;refine Af (t:=47) Y rfl (fun k1=>?_) (fun k1=>?_)
 ·
  exact absurd rfl k1
 refine Zf Y Y<|Yg (DJ (n:=0) Y Y)<|Zv (AA Y Y)<|Zm Y ?_;refine Af (t:=51) Y rfl (fun k2=>?_) (fun k2=>?_)
 ·
  exact absurd rfl k2
 refine Zf Y Y<|Yg (AR underlying40 Y)<|Yg (Bi (n:=0) Y Y)<|Zv (AA Y Y)<|Z0<|Zx ?_;refine Ao Y (fun k3=>?_) (fun k3=>?_)
 ·
  exfalso;omega
 refine AB<|Zx<|Zq<|Zg<|Zm Y ?_;refine BM (AZ (j:=0) underlying40 sizeOf49 Y Y (by omega)) ?_;refine Cf (cs:=[(g,.cells cur T zz)]) (by simp [hm9]) (Ab (cs:=#[I4 z0.x.tb,I4 z0.x.cl,I4 z0.x.lo,I4 z0.x.hi,I4 z0.x.ct,I4 z0.x.fi,.slice z0.qr z0.x.rows.length z0.cr,.slice z0.qp z0.x.paths.length z0.cp,.slice z0.qt z0.x.roots.length z0.ct]) isAgg49 sizeOf49 Y (by omega) hex9) rfl rfl ?_;refine Zc [_] Y call37 Y rfl (iC hz0k.rp hq1 rfl) ?_;rintro _ _ ⟨_,⟨vr,sr,rfl,hsr,rfl⟩,rfl⟩;obtain ⟨gr,cr,rfl⟩:=hsr.form;rw [←hn9]at hsr⊢;refine Zm Y<|Zd Y rfl<|Zd Y rfl<|Za Y<|Za Y<|Z0<|Zn [3,5,7,10,12,14,15] ?_;refine Zx<|Zq<|Zq<|Zg<|Zm Y<|Zv (CV Y)<|Zm Y ?_;refine Aj (t:=65) Y rfl (fun k4=>?_) (fun k4=>?_)
 ·
  cases k4
 refine Yf 0 underlying30 rfl rfl sizeOf3 Y<|Yl isAgg3 Y ?_;refine Yg (Hl Y Y)<|Zf Y Y ?_;refine Af (t:=69) Y rfl (fun k5=>?_) (fun k5=>?_)
 ·
  refine Zf Y Y<|Yg (AR underlying40 Y)<|Yg (DJ (n:=1) Y Y)<|Yg (AL Y Y)<|Zv (AA Y Y)<|Zm Y ?_;refine Af (t:=75) Y rfl (fun k6=>?_) (fun k6=>?_)
  ·
   exfalso;omega
  refine Yf 0 underlying30 rfl rfl sizeOf3 Y<|Yl isAgg3 Y ?_;refine Yg (CE Y Y)<|Zf Y Y ?_;refine Af (t:=79) Y rfl (fun k7=>?_) (fun k7=>?_)
  ·
   exfalso;omega
  refine A7 Y rfl<|A7 Y rfl<|A7 Y rfl<|A7 Y rfl<|A7 Y rfl<|A7 Y rfl<|Yg (AA Y Y)<|Zv (AA Y Y)<|Z0<|Zn [3,5,7,10,12,87] ?_;refine Zx<|Db Y<|AB<|Zx<|Zq<|Zg<|Zm Y<|Xr [_] Y call39 Y rfl (ZJ _ _ _ _ hS hs hn hok Tg zg) ?_;refine Zc [_] Y call38 Y rfl (jO _ (Jb _)) ?_;rintro _ _ ⟨_,⟨xp,gh,rfl,rfl⟩,rfl⟩;refine Zm Y<|Zd Y rfl<|Zd Y rfl<|Za Y<|Za Y<|Z0<|Zx<|Zq<|Zg<|Zm Y<|Xr [_,_] Y call40 Y rfl (ZV xp _ (some ⟨gh,0,none⟩) 1 [⟨0,CS,Cz (Bb (l.take a))⟩] _ TZ 0 ⟨0,CS,Cz (Bb (l.take a))⟩ rfl) ?_;refine Zm Y<|Zd Y rfl<|Zd Y rfl<|Ze (Al zeroValue67 #[_,_,_]) ?_;rintro _ _ ⟨bh,rfl,rfl⟩;refine Xe (Xw sizeOf67 #[I4 0,.string (str CS),.string (str (Cz (Bb (l.take a))))]) ?_;refine Za Y<|Z0<|Zn [3,5,7,10,12,17,18,19] ?_;refine Zx<|Zq<|Zq<|Zg<|Za Y<|Z0<|Zx<|AP<|Zb [20,3,5,7,10,12,17,18,19] ?_;refine Ay (e0:=[(20,_)]) (fun m e H=>∃(j:Nat),m=L.length -j∧(j≤L.length)∧e=[(20,I4 (j:Int))]∧H=[]) (by exact ⟨0,rfl,tX _,rfl,rfl⟩) Wp ?_;rintro _ _ _ ⟨j,rfl,hj,rfl,rfl⟩;refine Zq<|Zq<|Zg<|Zm Y<|Zm Y<|Zv (AR underlying40 Y)<|Zv (Aq Y Y)<|Z0<|Zx ?_;refine Ao Y (fun hlt=>?_) (fun hlt=>?_)
  ·
   obtain ⟨x,hx⟩:∃x,L[j]?=some x:=⟨_,tC (by omega)⟩;have hxm:=tT hx
   obtain ⟨z1,rfl,hz1k,g1,off1,cur1,T1,zz1,he1,hm1,hsz1,hex1⟩:=hRP.at hx;cases he1;refine AB<|Zx<|Zq<|AP<|Zq<|BJ (n:=8) (0::1::0::0::12::28::63::127::[]) 64 (by kernel_rfl) (by kernel_rfl) rfl ?_;refine Zi 1 0 rfl (AU (off:=2) underlying67 rfl rfl sizeOf9 Y)<|Zj 3 1 rfl isAgg9 Y ?_;refine Zi 7 2 rfl (AJ Y)<|Zi 15 3 rfl (AJ Y) ?_;refine Zi 31 4 rfl (AZ underlying40 sizeOf49 Y Y (by omega)) ?_;refine FO (b:=g) (x:= .cells cur1 T1 zz1) (D':=63) 5 rfl rfl rfl (by simp [hm1]) (Ab (cs:=#[I4 z1.x.tb,I4 z1.x.cl,I4 z1.x.lo,I4 z1.x.hi,I4 z1.x.ct,I4 z1.x.fi,.slice z1.qr z1.x.rows.length z1.cr,.slice z1.qp z1.x.paths.length z1.cp,.slice z1.qt z1.x.roots.length z1.ct]) isAgg49 sizeOf49 Y (by omega) hex1) ?_;refine Yw 6 127 rfl (Zu [_,_] Y call41 Y rfl (Jw hz1k.rp (hsm _ hxm).1 (hsm _ hxm).2 _ Tg zg)) ?_;rintro _ _ ⟨rfl,rfl⟩;rw [decide_eq_true (hver _ hxm)];refine Zi 255 7 rfl (CV Y)<|Am ?_;refine Zx ?_;refine Ag Y (fun k10=>?_) (fun k10=>?_)
   ·
    cases k10
   refine AB<|A8<|Zx<|Zg<|Zm Y<|Ya (n:=1) Y Y<|Za Y<|Z0<|Zn [20,3,5,7,10,12,17,18,19] ?_;refine Aa (e':=[(20,_)]) (by exact ⟨j+1,rfl,by omega,rfl,rfl⟩)
  refine Ar<|Zt<|Zt<|AO<|Zx<|Zq<|BJ (n:=21) (0::0::2::0::8::0::32::0::128::384::0::1024::3072::8064::16382::32767::65535::131071::131071::262143::1048575::[]) 36864 (by kernel_rfl) (by kernel_rfl) rfl ?_;refine Zi 1 0 rfl (AJ Y)<|Zi 3 1 rfl (AU (off:=0) underlying30 rfl rfl sizeOf3 Y)<|Zj 7 2 rfl isAgg3 Y ?_;refine Zi 15 3 rfl (AU (off:=1) underlying30 rfl rfl sizeOf3 Y)<|Zj 31 4 rfl isAgg3 Y ?_;refine Zi 63 5 rfl (AU (off:=3) underlying30 rfl rfl sizeOf3 Y)<|Zj 127 6 rfl isAgg3 Y ?_;refine Zi 255 7 rfl (AU (off:=3) underlying30 rfl rfl sizeOf3 Y)<|Zj 511 8 rfl isAgg3 Y ?_;refine Zi 1023 9 rfl (FH Y Y rfl)<|Zi 2047 10 rfl (AU (off:=4) underlying30 rfl rfl sizeOf3 Y)<|Zj 4095 11 rfl isAgg3 Y ?_;refine Yz 12 3072 8191 [11,8,6,4,2] [false,true,true,true,true] [(8,(_,_)),(6,(_,_)),(4,(_,_)),(2,(_,_))] rfl Y rfl rfl rfl rfl (Zu [_,_] Y call32 Y rfl (UL e4 5 (by decide) (by decide) he41 he42)) ?_;rintro _ _ ⟨rfl,rfl⟩;refine ⟨Zk (Zk (Zk (Zk (Ad)))),?_⟩;obtain ⟨d9,hd9⟩:∃d,d=C9 e4 5:=⟨_,rfl⟩;rw [←hd9];have hl9:=En e4 5 (by decide)
  rw [←hd9]at hl9;refine Zi 16383 13 rfl (FH Y Y rfl)<|Zi 32767 14 rfl (BH (vs:=[(0,I4 e0),(1,I4 e1),(3,I4 e3),(4,I4 (IntKind.i64.wrap (IntKind.i64.wrap (e3 -1) -(d9:Int))))]) (cs:=#[I4 e0,I4 e1,I4 0,I4 e3,I4 (IntKind.i64.wrap (IntKind.i64.wrap (e3 -1) -(d9:Int))),I4 0,I4 0]) Y (AX (pl:=#[(0,1),(1,1),(2,1),(3,1),(4,1),(5,1),(6,1)]) zeroValue30 underlying30 (fun _=>by kernel_rfl) (by kernel_rfl))) ?_;refine Yw 15 65535 rfl (Zu [_,_] Y call15 Y rfl (Qn (sp:=sp) (s:=[]) ⟨e0,e1,0,e3,IntKind.i64.wrap (IntKind.i64.wrap (e3 -1) -(d9:Int)),0,0⟩ (aQ e0 e1 e3 d9 hl9))) ?_;rintro _ _ ⟨rfl,rfl⟩;refine Zi 131071 16 rfl (AJ Y)<|Zi 262143 17 rfl (CL Y rfl)<|Zi 524287 18 rfl (CL Y rfl)<|Zi 1048575 19 rfl (Aw Y)<|Zi 2097151 20 rfl (Aw Y)<|Am ?_;refine Zn [5,7,17,19,22] ?_;refine Zx<|Zq<|Zg<|Zo Wh (Ab (cs:=#[_,_,_,_,_,_,_]) isAgg30 sizeOf30 Y (by exact tO _) (by exact BA rfl)) ?_;refine Xr [_,_] Y call15 Y rfl (WB q) ?_;refine Zm Y<|Zd Y rfl<|Zd Y rfl<|Za Y<|Za Y<|Z0<|Zx<|Zq<|Zg<|Zm Y<|Zm Y ?_;refine Aj (t:=138) Y rfl (fun k11=>?_) (fun k11=>?_)
  ·
   refine Zf Y Y<|Yg (Bi (n:=0) Y Y)<|Zv (AL Y Y)<|Zm Y ?_;refine Af (t:=142) Y rfl (fun k12=>?_) (fun k12=>?_)
   ·
    refine Zf Y Y<|Zv (AL Y Y)<|Zm Y ?_;refine Aj (t:=145) Y rfl (fun k11=>?_) (fun k11=>?_)
    ·
     refine Zf Y Y<|Yg (Bi (n:=1) Y Y)<|Zv (AL Y Y)<|Zm Y ?_;refine Af (t:=149) Y rfl (fun k12=>?_) (fun k12=>?_)
     ·
      refine Zf Y Y<|Yg (Bi (n:=50) Y Y)<|Zv (AL Y Y)<|Za Y<|Z0<|Zn [4] ?_;refine Zx<|A9 ?_;refine AC rfl results10 Y (by exact ⟨rfl,rfl⟩)
     exact absurd rfl k12
    cases k11
   exact absurd rfl k12
  cases k11
 refine A7 Y rfl<|A7 Y rfl<|A7 Y rfl<|Yg (AA Y Y)<|Zv (AA Y Y)<|Zm Y<|Yf 0 underlying30 rfl rfl sizeOf3 Y<|Yl isAgg3 Y ?_;refine Yg (CE Y Y)<|Zf Y Y ?_;refine Af (t:=79) Y rfl (fun k8=>?_) (fun k8=>?_)
 ·
  refine Zf Y Y<|Yg (AR underlying40 Y)<|Zf Y Y<|Yg (AR underlying45 Y) ?_
  (refine FN Y (Cs (m:=1) Y Y ?_) rfl rfl ?_;(focus (omega)))
  refine Yg (DJ Y Y)<|Yg (AL Y Y)<|Zv (AA Y Y)<|Z0<|Zn [3,5,7,10,12,87] ?_;refine Zx ?_;refine Ao Y (fun k9=>?_) (fun k9=>?_)
  ·
   exfalso;first|omega|(cases k9;done)
  refine AB<|Zx<|Zq<|Zg<|Zm Y<|Xr [_] Y call39 Y rfl (ZJ _ _ _ _ hS hs hn hok Tg zg) ?_;refine Zc [_] Y call38 Y rfl (jO _ (Jb _)) ?_;rintro _ _ ⟨_,⟨xp,gh,rfl,rfl⟩,rfl⟩;refine Zm Y<|Zd Y rfl<|Zd Y rfl<|Za Y<|Za Y<|Z0<|Zx<|Zq<|Zg<|Zm Y<|Xr [_,_] Y call40 Y rfl (ZV xp _ (some ⟨gh,0,none⟩) 1 [⟨0,CS,Cz (Bb (l.take a))⟩] _ TZ 0 ⟨0,CS,Cz (Bb (l.take a))⟩ rfl) ?_;refine Zm Y<|Zd Y rfl<|Zd Y rfl<|Ze (Al zeroValue67 #[_,_,_]) ?_;rintro _ _ ⟨bh,rfl,rfl⟩;refine Xe (Xw sizeOf67 #[I4 0,.string (str CS),.string (str (Cz (Bb (l.take a))))]) ?_;refine Za Y<|Z0<|Zn [3,5,7,10,12,17,18,19] ?_;refine Zx<|Zq<|Zq<|Zg<|Za Y<|Z0<|Zx<|AP<|Zb [20,3,5,7,10,12,17,18,19] ?_;refine Ay (e0:=[(20,_)]) (fun m e H=>∃(j:Nat),m=L.length -j∧(j≤L.length)∧e=[(20,I4 (j:Int))]∧H=[]) (by exact ⟨0,rfl,tX _,rfl,rfl⟩) Wp ?_;rintro _ _ _ ⟨j,rfl,hj,rfl,rfl⟩;refine Zq<|Zq<|Zg<|Zm Y<|Zm Y<|Zv (AR underlying40 Y)<|Zv (Aq Y Y)<|Z0<|Zx ?_;refine Ao Y (fun hlt=>?_) (fun hlt=>?_)
  ·
   obtain ⟨x,hx⟩:∃x,L[j]?=some x:=⟨_,tC (by omega)⟩;have hxm:=tT hx
   obtain ⟨z1,rfl,hz1k,g1,off1,cur1,T1,zz1,he1,hm1,hsz1,hex1⟩:=hRP.at hx;cases he1;refine AB<|Zx<|Zq<|AP<|Zq<|BJ (n:=8) (0::1::0::0::12::28::63::127::[]) 64 (by kernel_rfl) (by kernel_rfl) rfl ?_;refine Zi 1 0 rfl (AU (off:=2) underlying67 rfl rfl sizeOf9 Y)<|Zj 3 1 rfl isAgg9 Y ?_;refine Zi 7 2 rfl (AJ Y)<|Zi 15 3 rfl (AJ Y) ?_;refine Zi 31 4 rfl (AZ underlying40 sizeOf49 Y Y (by omega)) ?_;refine FO (b:=g) (x:= .cells cur1 T1 zz1) (D':=63) 5 rfl rfl rfl (by simp [hm1]) (Ab (cs:=#[I4 z1.x.tb,I4 z1.x.cl,I4 z1.x.lo,I4 z1.x.hi,I4 z1.x.ct,I4 z1.x.fi,.slice z1.qr z1.x.rows.length z1.cr,.slice z1.qp z1.x.paths.length z1.cp,.slice z1.qt z1.x.roots.length z1.ct]) isAgg49 sizeOf49 Y (by omega) hex1) ?_;refine Yw 6 127 rfl (Zu [_,_] Y call41 Y rfl (Jw hz1k.rp (hsm _ hxm).1 (hsm _ hxm).2 _ Tg zg)) ?_;rintro _ _ ⟨rfl,rfl⟩;rw [decide_eq_true (hver _ hxm)];refine Zi 255 7 rfl (CV Y)<|Am ?_;refine Zx ?_;refine Ag Y (fun k10=>?_) (fun k10=>?_)
   ·
    cases k10
   refine AB<|A8<|Zx<|Zg<|Zm Y<|Ya (n:=1) Y Y<|Za Y<|Z0<|Zn [20,3,5,7,10,12,17,18,19] ?_;refine Aa (e':=[(20,_)]) (by exact ⟨j+1,rfl,by omega,rfl,rfl⟩)
  refine Ar<|Zt<|Zt<|AO<|Zx<|Zq<|BJ (n:=21) (0::0::2::0::8::0::32::0::128::384::0::1024::3072::8064::16382::32767::65535::131071::131071::262143::1048575::[]) 36864 (by kernel_rfl) (by kernel_rfl) rfl ?_;refine Zi 1 0 rfl (AJ Y)<|Zi 3 1 rfl (AU (off:=0) underlying30 rfl rfl sizeOf3 Y)<|Zj 7 2 rfl isAgg3 Y ?_;refine Zi 15 3 rfl (AU (off:=1) underlying30 rfl rfl sizeOf3 Y)<|Zj 31 4 rfl isAgg3 Y ?_;refine Zi 63 5 rfl (AU (off:=3) underlying30 rfl rfl sizeOf3 Y)<|Zj 127 6 rfl isAgg3 Y ?_;refine Zi 255 7 rfl (AU (off:=3) underlying30 rfl rfl sizeOf3 Y)<|Zj 511 8 rfl isAgg3 Y ?_;refine Zi 1023 9 rfl (FH Y Y rfl)<|Zi 2047 10 rfl (AU (off:=4) underlying30 rfl rfl sizeOf3 Y)<|Zj 4095 11 rfl isAgg3 Y ?_;refine Yz 12 3072 8191 [11,8,6,4,2] [false,true,true,true,true] [(8,(_,_)),(6,(_,_)),(4,(_,_)),(2,(_,_))] rfl Y rfl rfl rfl rfl (Zu [_,_] Y call32 Y rfl (UL e4 5 (by decide) (by decide) he41 he42)) ?_;rintro _ _ ⟨rfl,rfl⟩;refine ⟨Zk (Zk (Zk (Zk (Ad)))),?_⟩;obtain ⟨d9,hd9⟩:∃d,d=C9 e4 5:=⟨_,rfl⟩;rw [←hd9];have hl9:=En e4 5 (by decide)
  rw [←hd9]at hl9;refine Zi 16383 13 rfl (FH Y Y rfl)<|Zi 32767 14 rfl (BH (vs:=[(0,I4 e0),(1,I4 e1),(3,I4 e3),(4,I4 (IntKind.i64.wrap (IntKind.i64.wrap (e3 -1) -(d9:Int))))]) (cs:=#[I4 e0,I4 e1,I4 0,I4 e3,I4 (IntKind.i64.wrap (IntKind.i64.wrap (e3 -1) -(d9:Int))),I4 0,I4 0]) Y (AX (pl:=#[(0,1),(1,1),(2,1),(3,1),(4,1),(5,1),(6,1)]) zeroValue30 underlying30 (fun _=>by kernel_rfl) (by kernel_rfl))) ?_;refine Yw 15 65535 rfl (Zu [_,_] Y call15 Y rfl (Qn (sp:=sp) (s:=[]) ⟨e0,e1,0,e3,IntKind.i64.wrap (IntKind.i64.wrap (e3 -1) -(d9:Int)),0,0⟩ (aQ e0 e1 e3 d9 hl9))) ?_;rintro _ _ ⟨rfl,rfl⟩;refine Zi 131071 16 rfl (AJ Y)<|Zi 262143 17 rfl (CL Y rfl)<|Zi 524287 18 rfl (CL Y rfl)<|Zi 1048575 19 rfl (Aw Y)<|Zi 2097151 20 rfl (Aw Y)<|Am ?_;refine Zn [5,7,17,19,22] ?_;refine Zx<|Zq<|Zg<|Zo Wh (Ab (cs:=#[_,_,_,_,_,_,_]) isAgg30 sizeOf30 Y (by exact tO _) (by exact BA rfl)) ?_;refine Xr [_,_] Y call15 Y rfl (WB q) ?_;refine Zm Y<|Zd Y rfl<|Zd Y rfl<|Za Y<|Za Y<|Z0<|Zx<|Zq<|Zg<|Zm Y<|Zm Y ?_;refine Aj (t:=138) Y rfl (fun k11=>?_) (fun k11=>?_)
  ·
   refine Zf Y Y<|Yg (Bi (n:=0) Y Y)<|Zv (AL Y Y)<|Zm Y ?_;refine Af (t:=142) Y rfl (fun k12=>?_) (fun k12=>?_)
   ·
    refine Zf Y Y<|Zv (AL Y Y)<|Zm Y ?_;refine Aj (t:=145) Y rfl (fun k11=>?_) (fun k11=>?_)
    ·
     refine Zf Y Y<|Yg (Bi (n:=1) Y Y)<|Zv (AL Y Y)<|Zm Y ?_;refine Af (t:=149) Y rfl (fun k12=>?_) (fun k12=>?_)
     ·
      refine Zf Y Y<|Yg (Bi (n:=50) Y Y)<|Zv (AL Y Y)<|Za Y<|Z0<|Zn [4] ?_;refine Zx<|A9 ?_;refine AC rfl results10 Y (by exact ⟨rfl,rfl⟩)
     exact absurd rfl k12
    cases k11
   exact absurd rfl k12
  cases k11
 exfalso;omega
end Go.Proofs.YtkdgffcfmgmemaaGreatDoor
namespace Go.Proofs.YtkdgffcfmgmemaaGreatDoor
open Go.Proofs.Tryz
open Go Go.RowKit Gw
set_option maxRecDepth 100000
attribute [local irreducible] Gw.At Gw.Nx Gw.Ops
open Go.ChangeShapes Go.WideShapes Go.Deep
theorem dM{l:List Value}(h:l.length=5):∃a b c d e,l=[a,b,c,d,e]:=by
 match l,h with
 |[a,b,c,d,e],_=>exact ⟨a,b,c,d,e,rfl⟩
theorem dD{H:Type}{enc:TypeId×Value→H}{W:World}{base:Nat}{held:Bool}{fuel:Nat}{l:List Value}{x:DataW H×List MemPlace}(h:DataW.trod enc Tryz.prog W base (fun _=>true) held fuel 23 l=some x)(hl:l.length=5):
 ∃a b c d e:Int,l=[I4 a,I4 b,I4 c,I4 d,I4 e]∧(-9223372036854775808≤a∧a≤9223372036854775807)∧(-9223372036854775808≤b∧b≤9223372036854775807)∧(-9223372036854775808≤c∧c≤9223372036854775807)∧(-9223372036854775808≤d∧d≤9223372036854775807)∧(-9223372036854775808≤e∧e≤9223372036854775807):=by
 obtain ⟨ys,m,_,_,_,hyl,hf⟩:=DataW.trod_array underlying23 h;have hj:∀j,j<5→∃n:Int,l[j]?=some (I4 n)∧-9223372036854775808≤n∧n≤9223372036854775807:=fun j hj=>by
  have f:=hf j hj;rw [rT,wQ,tC (by omega)]at f;have hj2:j<l.length:=by omega
  have e:(l.drop j).take 1=[l[j]]:=by rw [vK hj2];rfl
  rw [e]at f;obtain ⟨k,hk,_,hkw⟩:=DataW.trod_int underlying3 f;injection hk with hk _
  exact ⟨k,by rw [tC hj2,hk],bounds_i64 hkw⟩
 obtain ⟨v0,v1,v2,v3,v4,rfl⟩:=dM hl;obtain ⟨a,ha,ha2⟩:=hj 0 (by decide);obtain ⟨b,hb,hb2⟩:=hj 1 (by decide);obtain ⟨c,hc,hc2⟩:=hj 2 (by decide);obtain ⟨d,hd,hd2⟩:=hj 3 (by decide);obtain ⟨e,he,he2⟩:=hj 4 (by decide);simp at ha hb hc hd he;subst ha hb hc hd he;exact ⟨a,b,c,d,e,rfl,ha2,hb2,hc2,hd2,he2⟩
theorem Qh{P:Program}{w:World}{r:Reach}{base:Nat}{t:TypeId}{fs:Array Field}{v:Value}(hu:P.underlying t=some (.struct fs))(h:Value.okWide P w r base t v):∃cs,v= .agg cs∧cs.size=P.cellsOf t:=by
 unfold Value.okWide at h;rw [hu]at h;obtain ⟨cs,rfl,h1,_⟩:=h;exact ⟨cs,rfl,h1⟩
theorem qA:Tryz.prog.cellsOf 26=9:=by kernel_rfl
open Go.ChangeShapes Go.WideShapes Go.Deep
section
variable{H:Type}{enc:TypeId×Value→H}{W:World}{base:Nat}{held:Bool}
theorem Y1{Tg:TypeId}{zg:Nat×Nat}(h4:W.heap[1]?=some (.cells (Ct.map Bn).toArray Tg zg)){fuel:Nat}{cs:List Value}{x:DataW H×List MemPlace}(h:DataW.trod enc Tryz.prog W base (fun _=>true) held fuel 26 cs=some x)(hl:cs.length=9):
 ∃(p:Option Addr) (cap:Nat) (ys:List (List Int)) (n0 n1 n2 n3 n4 n5 n6:Int) (tw:Value),cs=[.slice p ys.length cap,I4 n0,I4 n1,I4 n2,I4 n3,I4 n4,I4 n5,I4 n6,tw]∧Nc (Og W [1]) (.slice p ys.length cap) ys∧(-9223372036854775808≤n0∧n0≤9223372036854775807)∧(-9223372036854775808≤n1∧n1≤9223372036854775807)∧(-9223372036854775808≤n2∧n2≤9223372036854775807)∧(-9223372036854775808≤n3∧n3≤9223372036854775807)∧(-9223372036854775808≤n4∧n4≤9223372036854775807)∧(-9223372036854775808≤n5∧n5≤9223372036854775807)∧(-9223372036854775808≤n6∧n6≤9223372036854775807):=by
 obtain ⟨xs,m,_,hx,hcl,hxl,hf⟩:=DataW.trod_struct underlying26 h
 match cs,hl with
 |[a0,a1,a2,a3,a4,a5,a6,a7,a8],_=>
  have hy:∀i,i<5→∃y,xs[i]?=some y:=fun i hi=>⟨_,tC (by rw [hxl];exact hi)⟩;obtain ⟨y0,hy0⟩:=hy 0 (by decide);obtain ⟨y1,hy1⟩:=hy 1 (by decide);obtain ⟨y2,hy2⟩:=hy 2 (by decide);obtain ⟨y3,hy3⟩:=hy 3 (by decide);obtain ⟨u,g,hu,hm⟩:=Vy h4 ((hf 0 _ rfl).trans hy0);obtain ⟨n0,n1,n2,n3,n4,e1,b0,b1,b2,b3,b4⟩:=dD ((hf 1 _ rfl).trans hy1) rfl;obtain ⟨n5,e5,_,b5⟩:=DataW.trod_int underlying3 ((hf 2 _ rfl).trans hy2);obtain ⟨n6,e6,_,b6⟩:=DataW.trod_int underlying3 ((hf 3 _ rfl).trans hy3);obtain ⟨p,cap,e,hz⟩:=id hm;subst e;change [a0]=[_]at hu;change [a1,a2,a3,a4,a5]=[_,_,_,_,_]at e1;change [a6]=[_]at e5;change [a7]=[_]at e6;injection hu with hu
  injection e1 with e1 e2
  injection e2 with e2 e3
  injection e3 with e3 e4
  injection e4 with e4 e7
  injection e7 with e7
  injection e5 with e5
  injection e6 with e6
  subst hu e1 e2 e3 e4 e7 e5 e6;exact ⟨p,cap,g,n0,n1,n2,n3,n4,n5,n6,a8,rfl,hm,b0,b1,b2,b3,b4,bounds_i64 b5,bounds_i64 b6⟩
end
end Go.Proofs.YtkdgffcfmgmemaaGreatDoor
namespace Go.Proofs.YtkdgffcfmgmemaaGreatDoor
open Go.Proofs.Tryz
open Go Go.RowKit Gw
set_option maxRecDepth 100000
attribute [local irreducible] Gw.At Gw.Nx Gw.Ops
theorem nZ:Tryz.prog.cellsOf 30=7:=by kernel_rfl
open Go.ChangeShapes Go.WideShapes Go.Deep
section
variable{H:Type}{enc:TypeId×Value→H}{W:World}{base:Nat}{held:Bool}
theorem Vz{fuel:Nat}{cs:List Value}{x:DataW H×List MemPlace}(h:DataW.trod enc Tryz.prog W base (fun _=>true) held fuel 30 cs=some x)(hl:cs.length=7):
 ∃(n0 n1 n2 n3 n4 n5 n6:Int),cs=[I4 n0,I4 n1,I4 n2,I4 n3,I4 n4,I4 n5,I4 n6]∧(-9223372036854775808≤n0∧n0≤9223372036854775807)∧(-9223372036854775808≤n1∧n1≤9223372036854775807)∧(-9223372036854775808≤n2∧n2≤9223372036854775807)∧(-9223372036854775808≤n3∧n3≤9223372036854775807)∧(-9223372036854775808≤n4∧n4≤9223372036854775807)∧(-9223372036854775808≤n5∧n5≤9223372036854775807)∧(-9223372036854775808≤n6∧n6≤9223372036854775807):=by
 obtain ⟨xs,m,_,hx,hcl,hxl,hf⟩:=DataW.trod_struct underlying30 h
 match cs,hl with
 |[a0,a1,a2,a3,a4,a5,a6],_=>
  have hy:∀i,i<7→∃y,xs[i]?=some y:=fun i hi=>⟨_,tC (by rw [hxl];exact hi)⟩;obtain ⟨y0,hy0⟩:=hy 0 (by decide);obtain ⟨n0,e0,_,b0⟩:=DataW.trod_int underlying3 ((hf 0 _ rfl).trans hy0);change [a0]=[_]at e0;injection e0 with e0
  obtain ⟨y1,hy1⟩:=hy 1 (by decide);obtain ⟨n1,e1,_,b1⟩:=DataW.trod_int underlying3 ((hf 1 _ rfl).trans hy1);change [a1]=[_]at e1;injection e1 with e1
  obtain ⟨y2,hy2⟩:=hy 2 (by decide);obtain ⟨n2,e2,_,b2⟩:=DataW.trod_int underlying3 ((hf 2 _ rfl).trans hy2);change [a2]=[_]at e2;injection e2 with e2
  obtain ⟨y3,hy3⟩:=hy 3 (by decide);obtain ⟨n3,e3,_,b3⟩:=DataW.trod_int underlying3 ((hf 3 _ rfl).trans hy3);change [a3]=[_]at e3;injection e3 with e3
  obtain ⟨y4,hy4⟩:=hy 4 (by decide);obtain ⟨n4,e4,_,b4⟩:=DataW.trod_int underlying3 ((hf 4 _ rfl).trans hy4);change [a4]=[_]at e4;injection e4 with e4
  obtain ⟨y5,hy5⟩:=hy 5 (by decide);obtain ⟨n5,e5,_,b5⟩:=DataW.trod_int underlying3 ((hf 5 _ rfl).trans hy5);change [a5]=[_]at e5;injection e5 with e5
  obtain ⟨y6,hy6⟩:=hy 6 (by decide);obtain ⟨n6,e6,_,b6⟩:=DataW.trod_int underlying3 ((hf 6 _ rfl).trans hy6);change [a6]=[_]at e6;injection e6 with e6
  subst e0 e1 e2 e3 e4 e5 e6;exact ⟨n0,n1,n2,n3,n4,n5,n6,rfl,bounds_i64 b0,bounds_i64 b1,bounds_i64 b2,bounds_i64 b3,bounds_i64 b4,bounds_i64 b5,bounds_i64 b6⟩
end
theorem Ve(p:Option Addr)(cap:Nat)(ys:List (List Int))(M:List AV)(hX:Nc M (.slice p ys.length cap) ys)(n0 n1 n2 n3 n4 n5 n6:Int)(hn0:-9223372036854775808≤n0∧n0≤9223372036854775807)(hn1:-9223372036854775808≤n1∧n1≤9223372036854775807)(hn2:-9223372036854775808≤n2∧n2≤9223372036854775807)(hn3:-9223372036854775808≤n3∧n3≤9223372036854775807)(hn4:-9223372036854775808≤n4∧n4≤9223372036854775807)(hn5:-9223372036854775808≤n5∧n5≤9223372036854775807)(hn6:-9223372036854775808≤n6∧n6≤9223372036854775807)(tw:Value)(e0 e1 e2 e3 e4 e5 e6:Int)(he0:-9223372036854775808≤e0∧e0≤9223372036854775807)(he1:-9223372036854775808≤e1∧e1≤9223372036854775807)(he2:-9223372036854775808≤e2∧e2≤9223372036854775807)(he3:-9223372036854775808≤e3∧e3≤9223372036854775807)(he4:-9223372036854775808≤e4∧e4≤9223372036854775807)(he5:-9223372036854775808≤e5∧e5≤9223372036854775807)(he6:-9223372036854775808≤e6∧e6≤9223372036854775807)(Tg:TypeId)(zg:Nat×Nat):Au Tryz.prog 10 #[.agg #[.slice p ys.length cap,I4 n0,I4 n1,I4 n2,I4 n3,I4 n4,I4 n5,I4 n6,tw],.agg #[I4 e0,I4 e1,I4 e2,I4 e3,I4 e4,I4 e5,I4 e6]] [[(1,.cells (Ct.map Bn).toArray Tg zg)],M] (.bool true):=iK hX n0 n1 n2 n3 n4 n5 n6 hn0.1 hn0.2 hn1.1 hn1.2 hn2.1 hn2.2 hn3.1 hn3.2 hn4.1 hn4.2 hn5.1 hn5.2 hn6.1 hn6.2 tw e0 e1 e2 e3 e4 e5 e6 he4.1 he4.2 Tg zg
end Go.Proofs.YtkdgffcfmgmemaaGreatDoor
namespace Go.Proofs.YtkdgffcfmgmemaaGreatDoor
open Go.Proofs.Tryz
open Go Go.RowKit Gw
set_option maxRecDepth 100000
attribute [local irreducible] Gw.At Gw.Nx Gw.Ops
open Go.ChangeShapes Go.WideShapes Go.ChangeAt
theorem UZ{P:Program}{f:FuncId}{fn:Func}{s:ChangeSpec}{c:OpenClaim}(h0:c.wf (OpenSpec.ofChange s)=true)(h1:laidOutB P=true)(h2:mapsRowed P=true)(h3:fn.params.all (P.readableRec ·)=true)(h4:namedTie P c.named s.vars=true)(h5:(c.stops== [])=true)(h6:(P.stops== [])=true)(h7:(c.knobs== [])=true)(h8:(P.stopKnobs== [])=true)(h9:(c.inPlace==P.inPlace f)=true)(h10:(c.unfollowed==P.unfollowed f)=true)(h11:(c.recurses==P.recurses f)=true)(h12:(c.named==P.varsNamed f)=true)(h13:(c.maps==(fn.params.toList++s.plain.varTypes P).any (P.mapsRec ·))=true)(h14:(c.ifaces==(fn.params.toList++s.plain.varTypes P).any (P.ifacesRec ·))=true)(h15:(c.mapsOut==P.mapsAmong fn.resultTypes.toList)=true)(h16:(c.loops==(fn.params.toList++s.plain.varTypes P).any (P.loopsFrom ·))=true)(h17:(c.wideKeys==(fn.params.toList++s.plain.varTypes P++fn.resultTypes.toList).any (P.wideKeysFrom ·))=true)(h18:s.vars.all (P.varReadable ·)=true)(h19:fn.resultTypes.all (fun t=>P.readableRec t&&decide (t<P.types.size))=true)(h20:(c.ifacesOut==fn.resultTypes.toList.any (P.ifacesRec ·))=true)(h21:(c.loopsOut==fn.resultTypes.toList.any (P.loopsFrom ·))=true)(h22:(c.plainKeys==P.plainKeys)=true)(h23:c.shortTexts.isNone=true)(h24:P.stopsHeard=true)(h25:P.mayEnter=true)(h26:(c.lifted==P.liftsFinal)=true)(h27:(P.make==some c.make)=true)(h28:(c.kinds==(if c.domain.isEmpty then []else fn.params.toList.map fun t=>match P.underlying t with|some (.int k)=>some k|_=>none))=true)(h29:(c.pinned==c.pinnedBy)=true)(h30:(c.veiled==(fn.params.toList++s.plain.varTypes P++fn.resultTypes.toList).any (P.veiledRec ·))=true)(h31:c.veiledFits P fn.params.toList (fn.params.toList++s.plain.varTypes P++fn.resultTypes.toList)=true):joinedFacts P f fn s c=true:=by
 unfold joinedFacts;simp only [u6];exact ⟨⟨⟨⟨⟨⟨⟨⟨⟨⟨⟨⟨⟨⟨⟨⟨⟨⟨⟨⟨⟨⟨⟨⟨⟨⟨⟨⟨⟨⟨⟨h0,h1⟩,h2⟩,h3⟩,h4⟩,h5⟩,h6⟩,h7⟩,h8⟩,h9⟩,h10⟩,h11⟩,h12⟩,h13⟩,h14⟩,h15⟩,h16⟩,h17⟩,h18⟩,h19⟩,h20⟩,h21⟩,h22⟩,h23⟩,h24⟩,h25⟩,h26⟩,h27⟩,h28⟩,h29⟩,h30⟩,h31⟩
end Go.Proofs.YtkdgffcfmgmemaaGreatDoor
