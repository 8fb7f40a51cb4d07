/- make. -/
import Derived.Test.YtlkdhannldcfbabGreatDoorMt13
set_option linter.unusedVariables false
set_option linter.unusedSimpArgs false
namespace Go.Proofs.YtlkdhannldcfbabGreatDoor
open Go.Proofs.Tryz
open Go Go.RowKit Gw
set_option maxRecDepth 100000
attribute [local irreducible] Gw.At Gw.Nx Gw.Ops
variable{mp ip ck:Nat}{qs:List (Int×QM)}{es:Array MapEntry}{lm:List (Int×A2)}
theorem pM(X:Et qs es ck lm)(hq:∀x∈qs,BH x.2)(hl:qs.length<=500):BS prog 111 #[I5 ip] [[(ip,.cells #[.map (some mp),.pointer none] 200 (0,0))],[(mp,.map es ck)]] (fun r H'=>∃lp ML sc jn,r=I5 lp/\QH sc jn lp ML/\Jh qs sc jn/\H'=[[(ip,.cells #[.map (some mp),I5 lp] 200 (0,0))],[(mp,.map es ck)],ML]):=by
 have Ty:=mL;have Tp:=X.len
 refine Se func111 ntmps111 [0] ?_;intro u R;refine A3<|AH Y<|B8 Y<|Zp Y V<|Zh 1 S4 V rfl cY Y<|Zl isAgg198 Y ?_;refine Zv (O0 underlying198 Y Y)<|A4<|AY Y (fun hb=>by cases hb)<|fun hb=>AC<|C6<|Ze (DV)<|AF fun ma=>AH Y<|A3<|Ze (DV)<|AF fun mz=>Ze (DV)<|AF fun mj=>Zv (BN (vs:=[(0,_),(1,_)]) (cs:=#[_,_]) Y (Aa (pl:=#[(0,1),(1,1)]) zeroValue318 iz (fun _=>by kernel_rfl) V))<|Ze (Bx #[_,_])<|AF fun lp=>B2 Y<|Zn [0,3,4] ?_;refine Zx<|B8 Y<|Zp Y V<|Zh 0 S4 V rfl fY Y<|Zl fk Y ?_;refine Ze (OC eN Y Wh)<|AF fun ib=>A4<|AQ<|Bc<|Bc<|Bc<|Zb [0,3,4,32] ?_;refine Aw (e0:=[]) (fun m e H=>∃(js:List Nat) (seen:Array Nat) (vs:List (Int×QM)) (af:Array MapEntry) (W:Nat) (U:List ((Int×Int)×A2)) (J:Array MapEntry) (G:Nat) (kv:List (Int×A2)) (Z MJ MK:List A8),m=lm.length -js.length/\(J9 es js seen/\fB lm js vs/\Co K2 af W U/\(∀p∈U,KD p.1)/\zD vs U Z/\Co (fun n:Int=>Value.int .i64 n) J G kv/\fD vs kv (MJ++MK))/\e=[]/\H=[[(ib,.mapIter (some mp) ck seen ck)],[(ma,.map af W)],[(mj,.map J G)],Z,MJ,MK]) (by exact ⟨[],#[],[],#[],0,[],#[],0,[],[],[],[],V,⟨Kj _,⟨V,fun x=>by simp⟩,EU _,fun p hp=>by simp at hp,dR _ _,EU _,dR _ _⟩,V,V⟩) Wp ?_;rintro _ _ _ ⟨js,seen,vs,af,W,U,J,G,kv,Z,MJ,MK,rfl,⟨gy,j5,B,ek,pg,gm,pq⟩,rfl,rfl⟩;have zt:=FE es.size js gy.nodup gy.lt
 rw [X.map.size]at zt;refine A3<|Ze (QO X.map gy Y Wo Wh) ?_;rintro _ _ qh;rcases qh with⟨ax,rfl,rfl⟩|⟨jn,pn,seen2,hpn,hjn,hi2,rfl,rfl⟩
 ·
  have zl:=ax;have l9:=gy
  refine Zd Y V<|A4<|Zq<|AY Y (fun hb=>by cases hb)<|fun hb=>BA<|Zt<|Zt<|AX<|Zx<|B8 Y<|Ze (OC underlying314 Y Wh)<|AF fun ic=>A4<|AQ<|Bc<|Zb [0,4,79] ?_;refine Aw (e0:=[]) (fun m e H=>∃(ks:List Nat) (seen:Array Nat) (g:Int×Int->List IvM) (K:Array MapEntry) (I:Nat) (l5:List ((Int×Int)×A2)) (Z MB:List A8),m=U.length -ks.length/\(J9 af ks seen/\Co K2 K I l5/\(∀p,p∈l5↔∃k∈ks,U[k]?=some p)/\VE 4 323 U (fun k=>(g k).length) (fun k=>CK (g k)) (Z++MB)/\(∀j p,U[j]?=some p->if j∈ks then Rs (Ep vs p.1) (g p.1)else g p.1=Ep vs p.1))/\e=[]/\H=[[(ic,.mapIter (some ma) W seen W)],[(mz,.map K I)],Z,MB]) (by exact ⟨[],#[],Ep vs,#[],0,[],Z,[],rfl,⟨Kj _,EU _,fun p=>by simp,by rw [E7];exact pg,fun j p _=>by simp⟩,rfl,rfl⟩) Wp ?_;rintro _ _ _ ⟨ks,seen,g,K,I,l5,Z,MB,rfl,⟨d9,vo,p9,sw,pz⟩,rfl,rfl⟩;have FT:=FE af.size ks d9.nodup d9.lt
  rw [B.size]at FT;refine A3<|Ze (QO B d9 Y Wo Wh) ?_;rintro _ _ qh;rcases qh with⟨ax,rfl,rfl⟩|⟨jn,pn,seen2,hpn,hjn,hi2,rfl,rfl⟩
  ·
   refine Zd Y V<|A4<|Zq<|AY Y (fun hb=>by cases hb)<|fun hb=>BA<|Zt<|Zt<|AX<|Zx<|Zq<|Cc (s1:=[(lp,Obj.cells #[.map (some mz),.map (some mj)] 318 (0,0))]) (s2:=[(mz,Obj.map K I)]) Wo Wo ?_;refine Cc (s1:=([(lp,Obj.cells #[.map (some mz),.map (some mj)] 318 (0,0))]++[(mz,Obj.map K I)])) (s2:=[(mj,Obj.map J G)]) Wo Wo ?_;refine Cc (s1:=(([(lp,Obj.cells #[.map (some mz),.map (some mj)] 318 (0,0))]++[(mz,Obj.map K I)])++[(mj,Obj.map J G)])) (s2:=Z) Wo Wo ?_;refine Cc (s1:=((([(lp,Obj.cells #[.map (some mz),.map (some mj)] 318 (0,0))]++[(mz,Obj.map K I)])++[(mj,Obj.map J G)])++Z)) (s2:=MB) Wo Wo ?_;refine Cc (s1:=(((([(lp,Obj.cells #[.map (some mz),.map (some mj)] 318 (0,0))]++[(mz,Obj.map K I)])++[(mj,Obj.map J G)])++Z)++MB)) (s2:=MJ) Wo Wo ?_;refine Cc (s1:=((((([(lp,Obj.cells #[.map (some mz),.map (some mj)] 318 (0,0))]++[(mz,Obj.map K I)])++[(mj,Obj.map J G)])++Z)++MB)++MJ)) (s2:=MK) Wo Wo ?_;refine Zg<|Zm Y<|Zm Y<|Zp Y V<|Zh 1 S4 V rfl cY Y<|Xe (Zs cY Y Y V) ?_;refine A4<|AK Y<|An Y<|AO V results111 Y (by
    have zu:=FE es.size js l9.nodup l9.lt;rw [X.map.size]at zu;obtain ⟨zh,zi⟩:=jH X A0 j5 zl B.keys pg gm pq vo ek p9 sw pz ax (lp:=lp) (mz:=mz) (mj:=mj) (ML:=(((((([(lp,Obj.cells #[.map (some mz),.map (some mj)] 318 (0,0))]++[(mz,Obj.map K I)])++[(mj,Obj.map J G)])++Z)++MB)++MJ)++MK)) B7 B7 B7 (fun c hc=>by simp only [CD]at hc⊢;rcases hc with hc|hc<;>simp [hc]) (fun c hc=>by simp only [CD]at hc⊢;rcases hc with hc|hc<;>simp [hc]);exact ⟨lp,_,_,_,V,zh,zi,V⟩)
  refine Zd Y V<|A4<|Zq<|AY Y (fun hb=>?_) (fun hb=>?_);·
   have sQ:=FE af.size (ks++[jn]) hi2.nodup hi2.lt;rw [B.size,C0,GC]at sQ;have Hf:(ks++[jn]).length=ks.length+1:=by rw [C0];rfl
   refine B3<|AQ<|A3<|Bu (cs:=[(ic,.mapIter (some ma) W seen2 W),(ma,.map af W)]) B7 (JV B hi2 hpn Y) V rfl ?_;refine Zd Y V<|Zd Y V<|Ze (Al ph #[_,_])<|AF fun kb=>Xe (Xw sizeOf320 #[I4 pn.1.1,I4 pn.1.2]) ?_;refine B2 Y<|Zx ?_;have zm:g pn.1=Ep vs pn.1:=by have h:=pz jn pn hpn;rwa [As hjn]at h
   have zn:(g pn.1).length<=1000000:=by rw [zm];have:=UU vs pn.1;have:=j5.1;omega
   have zy:∀p∈l5,KD p.1:=fun p hp=>by
    obtain ⟨k,_,hk⟩:=(p9 p).1 hp;exact ek p (Ek hk)
   have Gl:KD pn.1:=ek pn (Ek hpn);obtain ⟨sA,cO,O,bn,gq⟩:=R5 B.keys sw pn.1;rw [D8 B.keys (Ek hpn)]at O;refine Cc (s1:=Z) (s2:=MB) Wo Wo ?_;refine V4 (M:=Z++MB) Wo bn ?_;refine Ay (n:=8) (0::1::3::7::0::0::32::127::[]) 192 AD AD V<|A1 0 V (AP Y)<|A1 1 V (Ao Y V)<|A1 2 V (AB (off:=0) iz V rfl sizeOf315 Y)<|Bm 3 V isAgg315 Y ?_;refine G3 4 V Wh (A9 (cs:=#[_,_]) isAgg320 sizeOf320 Y Wn (Az V)) ?_;refine A1 5 V (AP Y)<|Zz (l:=[6])<|BW [true,true] [(4,(_,_)),(3,(_,_))] V rfl (Zw [_] Y call186 Y V (j6 _ (g pn.1) sA zn O)) ?_ Bv Aj;rintro _ _ ⟨_,⟨rfl,s2,l2,o2,ME,MS,Gw,y5,MP,rfl⟩,rfl⟩;refine C3<|Yw 7 255 V (FK Tx underlying315 vo zy (Gl) Y Y Y Wo) ?_;rintro _ _ ⟨rfl,zb,yt,P5,LD,Mx,rfl⟩;refine Aq<|Zn [0,4,79] ?_;refine AA<|HJ (by exact ⟨ks++[jn],seen2,fun k=>if k=pn.1 then l2 else g k,zb,yt,P5,s2,cO,V,⟨hi2,LD,gH B.keys hpn hjn p9 Mx,wY (gq pn.2 s2 _ _ U B.keys (pJ B.keys hpn) MP),jr B.keys hpn hjn pz ⟨o2,ME,MS,Gw,y5⟩⟩,V,V⟩)
  cases hb
 obtain ⟨x,hx,rfl⟩:=(X.mem pn).1 (Ek hpn);have qw:=hq x hx
 refine Zd Y V<|A4<|Zq<|AY Y (fun hb=>?_) (fun hb=>?_);·
  have sM:=FE es.size (js++[jn]) hi2.nodup hi2.lt;rw [X.map.size,C0,GC]at sM;have Hf:(js++[jn]).length=js.length+1:=by rw [C0];rfl
  have Y2:=j5.1;have Tn:=UU vs (plQ x)
  have Tm:=dD vs x.2.ot;have p8:=gI j5 hpn
  refine B3<|AQ<|A3<|Bu (cs:=[(ib,.mapIter (some mp) ck seen2 ck),(mp,.map es ck)]) B7 (JV X.map hi2 hpn Y) V rfl ?_;refine Zd Y V<|Zd Y V<|Ze (Al RC #[_,_,_,_,_,_,_])<|AF fun xb=>Za Y<|Xe (Xw D4 #[I4 x.2.kd,I4 x.2.tb,I4 x.2.cl,I4 x.2.lo,I4 x.2.hi,I4 x.2.bq,I4 x.2.ot]) ?_;refine A4<|A3<|Zo Wh (A9 (cs:=#[_,_,_,_,_,_,_]) Fm D4 Y Wn (Az V)) ?_;refine Zc [_] Y call176 Y V (nZ x.2 qw) ?_;rintro _ _ ⟨_,⟨rfl,rfl⟩,rfl⟩;refine Zm Y<|Zd Y V<|Zd Y V<|Zd Y V<|Zd Y V<|Za Y<|Za Y<|Za Y<|B2 Y<|Zn [0,3,4,5,6,7,8,9,10,32] ?_;refine Zx<|AK Y<|Zm Y<|Zv (BN (vs:=[(0,_),(1,_)]) (cs:=#[_,_]) Y (Aa (pl:=#[(0,1),(1,1)]) ph lz (fun _=>by kernel_rfl) V))<|Ze (Al ph #[_,_])<|AF fun pb=>Xe (BJ sizeOf320 Y Y (by(simp [Value.oneCell',Value.cells];done)) Wu (by exact (rfl:_=(#[I4 x.2.tb,I4 x.2.cl]:AN))) G4 Wn (by exact BB _)) ?_;refine A4<|Zq ?_;obtain ⟨sA,cO,O,bn,gq⟩:=rA B.keys pg x;obtain ⟨qo,Ps,x9⟩:=O.form;rw [x9]at O;have q9:KD (plQ x):=⟨Vq (by have:=qw.1;simp [plQ];omega),Vq (by have:=qw.2.1;simp [plQ];omega)⟩
  refine V4 (M:=Z) Wo bn ?_;refine Zg<|Zm Y<|Zo Wh (A9 (cs:=#[_,_]) isAgg320 sizeOf320 Y Wn (Az V)) ?_;refine Zm Y<|Zm Y<|Zm Y<|Zv (BN (vs:=[(0,_),(1,_),(3,_)]) (cs:=#[_,_,_,_]) Y (Aa (pl:=#[(0,1),(1,1),(2,1),(3,1)]) zeroValue323 al (fun _=>by kernel_rfl) V))<|Ze (Ah (vs:=[_]) (cs:=[_,_,_,_]) cL RM zeroValue323 Y V rfl V rfl V)<|AF fun gb=>Ze (L6 Tx underlying314 zeroValue321 B ek (q9) (x9) Y Y Wo) ?_;rintro _ _ ⟨T9,Rl,lm3,j3,st3,rfl,HZ,zq,zk,vz,rfl⟩;refine Zd Y V<|Ze (BP (by_:=32) (sz:=4) cL (V:Tryz.prog.info? 323=some Tryz.t323) V rfl V rfl Y (O) Y (Cu 4 gb 1 1 323 (0,0) [I4 (Rx x).lo,I4 (Rx x).hi,I4 (Rx x).rc,I4 (Rx x).id] V) Wo Wo HO A0 A0) ?_;rintro _ _ ⟨qz,o9,rfl⟩;have vw:=BZ o9 (n':=(Ep vs (plQ x)++[Rx x]).length) (xs':=CK (Ep vs (plQ x)++[Rx x])) (by rw [C0];rfl) (by rw [bY];rfl)
  obtain ⟨Tg,Qe,rfl⟩:=o9.form;refine Zd Y V<|Ze (JB HZ zq zk Y Y Y Wo) ?_;rintro _ _ ⟨rfl,sj,r9,qx,qa,wo,rfl⟩;refine Z0<|Zn [0,3,4,5,6,32] ?_;refine Zx<|Zq ?_;have sO:∀p∈qx,KD p.1:=fun p hp=>by
   rcases (wo p).1 hp with rfl|⟨h,_⟩
   · exact q9
   · rcases (vz p).1 h with rfl|⟨h,_⟩
     · exact q9
     · exact ek p h
  have l8:=gq _ _ _ qa.keys (fun p=>by rw [wo,vz];exact PK _ _ _ _) vw;refine Cc (s1:=qz) (s2:=cO) Wo Wo ?_;refine Zg<|Zh 0 DB V rfl A6 Y<|Zl AE Y ?_;refine Zv (CO Y Y)<|A4<|Ak Y (fun h7=>?_) (fun h7=>?_);·
   obtain ⟨sJ,y9,cu,gQ,ql⟩:=qm gm.keys pq x h7;obtain ⟨qj,Pn,wz⟩:=cu.form;rw [wz]at cu;refine Cc (s1:=MJ) (s2:=MK) Wo Wo ?_;refine V4 (M:=MJ++MK) Wo gQ ?_;refine Ay (n:=17) (0::1::3::7::0::16::0::64::192::448::0::1024::4032::0::8192::32704::65535::[]) 114688 AD AD V<|A1 0 V (AP Y)<|A1 1 V (Ao Y V)<|A1 2 V (AB (off:=1) iz V rfl sizeOf316 Y)<|Bm 3 V isAgg316 Y ?_;refine A1 4 V (AB (off:=6) DB V rfl A6 Y)<|Bm 5 V AE Y ?_;refine A1 6 V (AP Y)<|A1 7 V (Ao Y V)<|A1 8 V (AB (off:=1) iz V rfl sizeOf316 Y)<|Bm 9 V isAgg316 Y ?_;refine A1 10 V (AB (off:=6) DB V rfl A6 Y)<|Bm 11 V AE Y ?_;refine G3 12 V Wh (Du (Cf D3 (D:=fun _=>True)) underlying316 zeroValue24 gm (fun _ _=>trivial) (trivial) (wz) Y Y) ?_;refine A1 13 V (AP Y)<|Zz (l:=[14])<|BW [true,true,true,true,true] [(12,(_,_)),(11,(_,_)),(9,(_,_)),(5,(_,_)),(3,(_,_))] V rfl (Ah (vs:=[_]) (cs:=[_]) DP A6 HT Y V rfl V rfl V) ?_ (fun _ _ h=>h.elim) Aj;rintro _ _ ⟨gj,rfl,rfl⟩;refine C3<|Yz 15 32704 65535 [12,11,9,5,3] [false,false,false,true,true] [(5,(_,_)),(3,(_,_))] V Y V rfl V rfl (BP (by_:=8) (sz:=1) DP (V:Tryz.prog.info? 3=some Tryz.t3) V rfl V rfl Y (cu) Y (Cu 1 gj 1 1 3 (0,0) [I4 x.1] V) Wo Wo HO A0 A0) ?_;rintro _ _ ⟨P7,o8,rfl⟩;refine ⟨Zk (Zk (Ab)),?_⟩;have qb:=BZ o8 (n':=(Fa vs x.2.ot++[x.1]).length) (xs':=(Fa vs x.2.ot++[x.1]).map fun i=>Value.int .i64 i) (by rw [C0];rfl) (by rw [CN];rfl)
   obtain ⟨Ta,Qd,rfl⟩:=o8.form;refine Yw 16 131071 V (FK (Cf D3 (D:=fun _=>True)) underlying316 gm (fun _ _=>trivial) (trivial) Y Y Y Wo) ?_;rintro _ _ ⟨rfl,zf,za,P6,ve,MC,rfl⟩;refine Aq<|Zn [0,3,4,32] ?_;refine AA<|HJ (by exact ⟨js++[jn],seen2,vs++[x],sj,r9,qx,zf,za,P6,qz++cO,P7,y9,V,⟨hi2,p8,qa,sO,l8,ve,ql _ _ _ ve.keys MC qb⟩,V,V⟩)
  refine AC<|AA<|HJ (by exact ⟨js++[jn],seen2,vs++[x],sj,r9,qx,J,G,kv,qz++cO,MJ,MK,V,⟨hi2,p8,qa,sO,l8,gm,qy pq x h7⟩,V,V⟩)
 cases hb
theorem pO{lp:Nat}:BS prog 111 #[I5 ip] [[(ip,.cells #[.map (some mp),I5 lp] 200 (0,0))]] (fun r H'=>r=I5 lp/\H'=[[(ip,.cells #[.map (some mp),I5 lp] 200 (0,0))]]):=by
 refine Se func111 ntmps111 [0] ?_;intro u R;refine A3<|AH Y<|B8 Y<|Zp Y V<|Zh 1 S4 V rfl cY Y<|Zl isAgg198 Y<|Zv (Nz underlying198 Y Y)<|A4<|AY Y (fun g=>?_) (fun g=>?_);·
  refine AK Y<|Zp Y V<|Zh 1 S4 V rfl cY Y<|Zl isAgg198 Y<|An Y<|Zt<|AO V results111 Y (by exact ⟨V,V⟩)
 cases g
variable{c:Chg}
theorem IK{r:AV}:r∈FQ c↔(c.had=true/\r=⟨c.t,c.k,c.o⟩)\/(c.has=true/\r=⟨c.t,c.k,c.n⟩):=by
 unfold FQ Ir;rw [CD];cases c.had<;>cases c.has<;>simp
theorem OI(h:c.ok){r:AV}(B:r∈FQ c):r.ok:=by
 obtain ⟨_,h2,_,_⟩:=h;rcases IK.1 B with⟨g,rfl⟩|⟨g,rfl⟩
 · have e:c.before=⟨c.t,c.k,c.o⟩:=by unfold Chg.before;rw [Ax g]
   rw [e]at h2;exact Wg fun m=>h2 (.inl ⟨g,m⟩)
 · have e:c.after=⟨c.t,c.k,c.n⟩:=by unfold Chg.after;rw [Ax g]
   rw [e]at h2;exact Wg fun m=>h2 (.inr ⟨g,m⟩)
theorem fU(h:c.ok):∀r∈FQ c,∀n:Nat,n<4->-1000000000000<=Dq r n/\Dq r n<=1000000000000:=fun r B n _=>by
 obtain ⟨⟨g,h2,m⟩,G,I⟩:=OI h B;simp only [inV]at g h2 m;unfold Dq;split;· omega
 · split
   · omega
   · split<;>omega
theorem fZ(h:c.ok):0<=c.t/\c.t<=3:=by
 have h0:c.had=true\/c.has=true:=by
  obtain ⟨g,_⟩:=h;cases e1:c.had<;>cases e2:c.has<;>simp_all
 rcases h0 with h0|h0
 · exact (OI h (IK.2 (.inl ⟨h0,rfl⟩))).2.1
 · exact (OI h (IK.2 (.inr ⟨h0,rfl⟩))).2.1
theorem wt{q:QM}(h:Ou q c=true):∃r∈FQ c,inQ q r=true:=by
 unfold Ou bfQ afQ Iz at h;rw [UP]at h;rcases h with h|h
 · split at h
   · rename_i h1
     rw [Ge]at h1;exact ⟨_,IK.2 (.inl ⟨h1.1,V⟩),h1.2⟩
   · cases h
 · split at h
   · rename_i h1
     rw [Ge]at h1;exact ⟨_,IK.2 (.inr ⟨h1.1,V⟩),h1.2⟩
   · cases h
theorem nM{q:QM}(m:BH q)(h:Ct q c=true):Ou q c=true\/(q.kd=7/\c.t=q.ot):=by
 have hn:Ou q c=false->VU q c=false/\mQ q (bfQ q c)=mQ q (afQ q c):=fun h=>by
  unfold Ou at h;unfold VU;rw [kn]at h;obtain ⟨g,h2⟩:=h;rw [g,h2];rw [Option.isSome_eq_false_iff,Option.isNone_iff_eq_none]at g h2;rw [g,h2];exact ⟨rfl,rfl⟩
 cases ha:Ou q c with
 |true=>exact .inl rfl
 |false=>
  obtain ⟨g,h2⟩:=hn ha;unfold Ct at h;rw [ha,g,h2]at h;obtain ⟨_,_,_,B⟩:=m;right;simp at h;exact ⟨by omega,h.2.2.2.2⟩
theorem A60{sc:Int->Int->List IvM}{jn:Int->List Int}(m:Jh qs sc jn){i:Int}(h:i∈O3 sc jn c):∃x∈qs,x.1=i:=by
 unfold O3 at h;rcases CD.1 h with h|h
 · obtain ⟨r,_,h⟩:=Tr.1 h
   obtain ⟨n,_,h⟩:=Tr.1 h;obtain ⟨x,hx,g,_⟩:=(m.scan _ _ _ _).1 h;exact ⟨x,hx,g⟩
 · obtain ⟨x,hx,g,_⟩:=(m.join _ _).1 h
   exact ⟨x,hx,g⟩
theorem xt(g:Et qs es ck lm){x y:Int×QM}(hx:x∈qs)(hy:y∈qs)(m:x.1=y.1):x=y:=by
 have B:∀{l:List (Int×QM)},(l.map (·.1)).Nodup->x∈l->y∈l->x=y:=fun{l}=>by
  induction l with
  |nil=>intro _ h;cases h
  |cons a l ih=>
   intro hn G h2;rw [Fc,LI]at hn;rcases DS.1 G with h3|h3
   · rcases DS.1 h2 with h4|h4
     · rw [h3,h4]
     · exact absurd (by rw [<-h3,m];exact Fk h4) hn.1
   · rcases DS.1 h2 with h4|h4
     · exact absurd (by rw [<-h4,<-m];exact Fk h3) hn.1
     · exact ih hn.2 h3 h4
 exact B g.ids hx hy
theorem jB{sc:Int->Int->List IvM}{jn:Int->List Int}(m:Jh qs sc jn){x:Int×QM}(hx:x∈qs)(B:BH x.2)(h:Ct x.2 c=true):x.1∈O3 sc jn c:=by
 unfold O3;rcases nM B h with h|⟨h7,g⟩
 · obtain ⟨r,G,hi⟩:=wt h
   unfold inQ at hi;rw [HA]at hi;have hc:=B.2.1
   have hv:=M5 r x.2.cl.toNat A0;rw [show((x.2.cl.toNat:Nat):Int)=x.2.cl by omega]at hv;have g:r.t=c.t:=by rcases IK.1 G with⟨_,rfl⟩|⟨_,rfl⟩<;>rfl
   refine G1 _ (Tr.2 ⟨r,G,Tr.2 ⟨x.2.cl.toNat,Mb.2 A0,?_⟩⟩);refine (m.scan _ _ _ _).2 ⟨x,hx,V,?_,by omega,by omega⟩;unfold plQ;rw [show((x.2.cl.toNat:Nat):Int)=x.2.cl by omega,<-g,hi.1]
 · exact HK _ ((m.join _ _).2 ⟨x,hx,rfl,h7,g.symm⟩)
def Xa(qs:List (Int×QM))(lv:A2)(ML:List A8):Prop:=(lv= .pointer none/\ML=[])\/∃lp sc jn,lv=I5 lp/\QH sc jn lp ML/\Jh qs sc jn
theorem jw{P:Program}{f:FuncId}{args:AN}{H1 g:Hp}{Q:A2->Hp->Prop}(h:BS P f args H1 Q)(e:g.flatten=H1.flatten):BS P f args g Q:=fun u R w m=>h u R w (m.perm (by rw [HW,HW,e]))
theorem A66(m:Et qs es ck lm)(I:∀x∈qs,BH x.2)(G:qs.length<=500){lv:A2}{ML:List A8}(B:Xa qs lv ML):
 BS prog 111 #[I5 ip] [[(ip,.cells #[.map (some mp),lv] 200 (0,0))],[(mp,.map es ck)],ML] (fun r H'=>∃lp g sc jn,r=I5 lp/\QH sc jn lp g/\Jh qs sc jn/\H'=[[(ip,.cells #[.map (some mp),I5 lp] 200 (0,0))],[(mp,.map es ck)],g]):=by
 rcases B with⟨rfl,rfl⟩|⟨lp,sc,jn,rfl,h1,h2⟩
 · refine (jw (H1:=[[(ip,.cells #[.map (some mp),.pointer none] 200 (0,0))],[(mp,.map es ck)]]) (pM m I G) B7).mono ?_
   exact fun v H' h=>h
 · refine (jv pO [[(mp,.map es ck)],ML]).mono ?_
   rintro v H' ⟨H1,⟨rfl,rfl⟩,rfl⟩;exact ⟨lp,ML,sc,jn,V,h1,h2,V⟩
structure IQ(S:Int->Prop)(es:Array MapEntry)(ck:Nat)(lm:List (Int×A2)):Prop where
 map:Co (fun n:Int=>Value.int .i64 n) es ck lm
 val:∀p∈lm,p.2= .bool true
 mem:∀i,i∈lm.map (·.1)↔S i
theorem je:IQ (fun _=>False) #[] 0 []:=⟨EU _,fun p h=>by simp at h,fun i=>by simp⟩
variable{S:Int->Prop}
theorem IQ.get(h:IQ S es ck lm)(i:Int) [Decidable (S i)]:(EM i lm).getD (.bool false)= .bool (decide (S i)):=by
 by_cases hi:S i
 · obtain ⟨p,g,rfl⟩:=CI.1 ((h.mem i).2 hi)
   rw [D8 h.map.keys g,h.val p g,DE hi];rfl
 · rw [DY fun p g m=>hi ((h.mem i).1 (CI.2 ⟨p,g,m⟩)),DQ hi];rfl
theorem IQ.cong{T:Int->Prop}(h:IQ S es ck lm)(e:∀i,S i↔T i):IQ T es ck lm:=⟨h.map,h.val,fun i=>(h.mem i).trans (e i)⟩
theorem IQ.put{I:Array MapEntry}{G:Nat}{B:List (Int×A2)}(h:IQ S es ck lm){i:Int}(O:Co (fun n:Int=>Value.int .i64 n) I G B)(J:∀p,p∈B↔p=(i,.bool true)\/(p∈lm/\p.1≠i)):IQ (fun j=>S j\/j=i) I G B:=by
 refine ⟨O,fun p g=>?_,fun j=>?_⟩
 · rcases (J p).1 g with rfl|⟨h1,_⟩
   · rfl
   · exact h.val p h1
 · rw [<-h.mem]
   constructor
   · intro K
     obtain ⟨p,g,rfl⟩:=CI.1 K;rcases (J p).1 g with rfl|⟨h1,_⟩
     · exact .inr rfl
     · exact .inl (Fk h1)
   · intro K
     by_cases m:j=i
     · subst m;exact CI.2 ⟨_,(J _).2 (.inl rfl),rfl⟩
     · obtain ⟨p,g,rfl⟩:=CI.1 (K.resolve_right m)
       exact CI.2 ⟨p,(J p).2 (.inr ⟨g,m⟩),V⟩
theorem IQ.len(h:IQ S es ck lm)(G:∀i,S i->∃x∈qs,x.1=i):lm.length<=qs.length:=by
 have B:∀{a b:List Int},a.Nodup->(∀x∈a,x∈b)->a.length<=b.length:=fun{a b}=>by
  induction a generalizing b with
  |nil=>intro _ _;exact CM _
  |cons x a ih=>
   intro hn m;obtain ⟨hx,hn⟩:=LI.1 hn;have h2:=ih (b:=b.erase x) hn fun y hy=>by
    have g:y≠x:=fun e=>hx (e▸hy);exact (List.mem_erase_of_ne g).2 (m y (GB _ hy))
   have J:=rS (m x (Fo ..));have K:=List.length_pos_of_mem (m x (Fo ..))
   rw [F2];omega
 have h2:=B (a:=lm.map (·.1)) (b:=qs.map (·.1)) h.map.keys fun i hi=>by
  obtain ⟨x,hx,I⟩:=G i ((h.mem i).1 hi);exact CI.2 ⟨x,hx,I⟩
 simpa using h2
def Jj(qs:List (Int×QM))(cs:List Chg)(i:Int):Prop:=∃x∈qs,x.1=i/\∃c∈cs,Ct x.2 c=true
end Go.Proofs.YtlkdhannldcfbabGreatDoor
namespace Go.Proofs.YtlkdhannldcfbabGreatDoor
open Go.Proofs.Tryz
open Go Go.RowKit Gw
set_option maxRecDepth 100000
attribute [local irreducible] Gw.At Gw.Nx Gw.Ops
open Go.Sort
theorem U5{κ:Type}{l:List (κ×A2)}{js:List Nat}(hn:js.Nodup)(B:∀j∈js,j<l.length):∃g,((DU l js).map (·.1)++g).Perm (l.map (·.1)):=by
 have I:(js++(List.range l.length).filter fun j=>decide (j∉js)).Perm (List.range l.length):=(T7 (HX.2 ⟨hn,(lA).sublist cC,fun a m b G=>by
  have:=(GF.1 G).2;simp only [HA]at this;intro h;subst h;exact this m⟩) lA).2 fun a=>by
  simp only [CD,GF,Mb,HA];constructor
  · rintro (h|h)
    · exact B a h
    · exact h.1
  · intro h
    by_cases m:a∈js
    · exact .inl m
    · exact .inr ⟨h,m⟩
 have h:=(I.filterMap (fun j=>l[j]?)).map (·.1);rw [fz,CN,show(List.range l.length).filterMap (fun j=>l[j]?)=DU l (List.range l.length) from rfl,Ny]at h;exact ⟨_,h⟩
def Nh{κ:Type}(l:List (κ×A2))(p:List κ):Prop:=∃rest,(p++rest).Perm (l.map (·.1))
theorem Nh.len{κ:Type}{l:List (κ×A2)}{p:List κ}{x:κ}(h:Nh l (p++[x])):p.length<l.length:=by
 obtain ⟨r,h⟩:=h;have:=h.length_eq
 simp at this;omega
theorem gD{v:A2}{zs:List Int}{s:List A8}(O:Row 3 v (zs.map (Value.int .i64)) s)(X:zs.length<=1000000):BS prog 191 #[v] [s] (fun r H'=>∃(zs':List Int) (s':List A8),r= .tuple #[]/\zs'.Perm zs/\(zs'.Pairwise fun x y=>x<=y)/\Row 3 v (zs'.map (Value.int .i64)) s'/\H'=[s']):=fun u R w J=>by
 have m:=(sX zs fun x y=>decide (x<=y)).length_eq;have G:(zs.mergeSort fun x y=>decide (x<=y)).Pairwise fun x y=>x<=y:=by
  have h:=List.pairwise_mergeSort (le:=fun x y:Int=>decide (x<=y)) (fun a b c W h2=>by simp only [HA]at*;omega) (fun a b=>by simp only [UP,HA];omega) zs;simpa only [HA]using h
 rcases O with⟨rfl,h0,rfl⟩|⟨g,cap,cur,z,rfl,rfl,hle,hcm,hcs,htk,hfr⟩
 · have hx:zs=[]:=by simpa using h0
   subst hx;refine (Tryz.slices_Sort_int_none none 0 w).mono ?_;rintro e U ⟨rfl,rfl⟩;exact .inl ⟨_,[[]],V,⟨[],[],V,.refl _,.nil,by simp [Gg],V⟩,J⟩
 · rw [Bk]at hle htk⊢
   have B:Sat u ([(g,.cells cur 3 z)]::R) w:=by simpa using J
   have I:=B.get (g,.cells cur 3 z) B7;have K:=Ub I A0 hfr htk
   refine (Tryz.slices_Sort_int g 0 cap zs w K (Iv.1 I).1 A0).mono ?_;rintro e U ⟨rfl,n,os,rfl⟩;refine .inl ⟨_,[[(g,.cells (putCells (Value.int .i64) 0 (zs.mergeSort fun x y=>decide (x<=y)).toArray cur) 3 z)]],V,⟨_,_,V,sX _ _,G,?_,V⟩,by simpa using B.sorted (n:=n) _ os⟩;refine .inr ⟨g,cap,_,z,by rw [Bk,m],rfl,by rw [Bk,m];exact hle,hcm,by rw [NN];exact hcs,?_,by rw [NN];exact hfr⟩;rw [Bk];exact aT _ _ A0
theorem jP(mi:Nat):BS prog 114 #[.map (some mi)] [] (fun r H'=>∃b,r= .func (.func 192) #[] #[I5 b]/\H'=[[(b,.cells #[.map (some mi)] 231 (0,0))]]):=by
 refine Se func114 ntmps114 [0] ?_;intro u R;refine A3<|Ze (Bx #[_])<|AF fun b=>AH Y<|A3<|Zv (Be (vs:=[]) (us:=[_]) Y Y)<|An Y<|AO V results114 Y (by exact ⟨b,V,V⟩)
variable{es:Array MapEntry}{ck:Nat}{lm:List (Int×A2)}
theorem jQ(U:Co (fun n:Int=>(Value.int .i64) n) es ck lm)(b mi:Nat):Kw prog 192 #[I5 b] [[(b,.cells #[.map (some mi)] 231 (0,0))]] (fun _ s=>(mi,Obj.map es ck)∈s) (fun x:Int=>#[I4 x]) (Nh lm) (fun ys=>ys.Perm (lm.map (·.1))):=by
 intro l J W hy s B;refine Se func192 ntmps192 [0,1] ?_;intro u R;refine A3<|Zl isAgg231 Y<|Ze (M3 underlying231 Y (FN Wo (W _ s B)))<|AF fun ib=>A4<|AQ<|Zb [0,5] ?_;refine Aw (e0:=[]) (fun m e H=>∃(js:List Nat) (seen:Array Nat) (s:List A8),m=lm.length -js.length/\(J9 es js seen/\J ((DU lm js).map (·.1)) s)/\e=[]/\H=[[(ib,.mapIter (some mi) ck seen ck)],s]) (by exact ⟨[],#[],s,V,⟨Kj _,B⟩,V,V⟩) Wp ?_;rintro _ _ _ ⟨js,seen,s,rfl,⟨I,B⟩,rfl,rfl⟩;have X:=FE es.size js I.nodup I.lt
 rw [U.size]at X;refine A3<|Ze (OD U I Y Wo (FN Wo (W _ s B))) ?_;rintro _ _ af;rcases af with⟨G,rfl,rfl⟩|⟨jn,pn,seen2,hpn,hjn,hi2,rfl,rfl⟩
 ·
  refine Zd Y V<|A4<|Zq<|AY Y (fun g=>by cases g)<|fun g=>BA<|Zt<|Zt<|AX<|DC V results192 (by exact ⟨_,s,G.map _,V,B⟩)
 refine Zd Y V<|A4<|Zq<|AY Y (fun g=>?_) (fun g=>?_);·
  have O:=FE es.size (js++[jn]) hi2.nodup hi2.lt;rw [U.size,C0,GC]at O;have cu:(js++[jn]).length=js.length+1:=by rw [C0];rfl
  have ax:Nh lm ((DU lm js).map (·.1)++[pn.1]):=by
   have h:=U5 (l:=lm) hi2.nodup (fun j hj=>by rw [<-U.size];exact hi2.lt j hj);rw [GK lm js hpn,CN]at h;exact h
  have bn:=hy ((DU lm js).map (·.1)) pn.1 s ax B;refine B3<|AQ<|Zq<|Zg ?_;have Z:=W _ s B
  refine Bu (cs:=[(ib,.mapIter (some mi) ck seen2 ck),(mi,.map es ck)]) (by simp [Z]) (JV U hi2 hpn Y) V rfl<|Zd Y V<|AH Y<|AK Y<|Zm Y<|Ze (GH (vs:=[_]) Y Y (bn) Wp) ?_;rintro _ _ ⟨_,⟨s',rfl,rfl,K⟩,rfl⟩;rw [show(DU lm js).map (·.1)++[pn.1]=(DU lm (js++[jn])).map (·.1) by rw [GK lm js hpn,CN];rfl]at K;refine Zv (Bo Y)<|A4<|AY Y (fun g=>by cases g)<|fun g=>AC<|AA<|HJ (by exact ⟨js++[jn],seen2,s',V,⟨hi2,K⟩,V,V⟩)
 cases g
variable{M:List A8}
theorem SE(Z:Co (fun n:Int=>(Value.int .i64) n) es ck lm)(hn:lm.length<=1000000)(b mi:Nat)(O:(mi,Obj.map es ck)∈M):BS prog 272 #[.slice none 0 0,.func (.func 192) #[] #[I5 b]] [[(b,.cells #[.map (some mi)] 231 (0,0))],M] (fun r H'=>∃(zs:List Int) (s':List A8),zs.Perm (lm.map (·.1))/\Row 3 r (zs.map (Value.int .i64)) s'/\H'=[M,s']):=by
 have af:=mL;refine DF func272 V ntmps272 V ?_;intro u R;refine Zb [0,1] ?_;refine A3<|Ze (Bx #[_])<|AF fun bs=>AH Y<|B8 Y<|A4<|AQ<|Zb [2,6] ?_;refine Bc<|JI (H0:=_) (R:=_) (I:=(fun(pre:List Int) H=>∃m s2,H=[[(bs,.cells #[m] 24 (0,0))],s2,M]/\Row 3 m (pre.map (Value.int .i64)) s2)) (E:=fun x e Hn=>e=[(5,I4 x),(7,I4 x)]/\Hn=[]) rfl Y call192 (jQ Z b mi) (fun pre H1 c d h=>by obtain ⟨m,s2,rfl,_⟩:=h;simp [O]) Y rfl Wp (⟨_,[],rfl,Gg _⟩) ?ha_2 ?hbd_2 ?hk_2
 case ha_2=>
  intro _ x _ _;refine Zg<|B2 Y<|LP (e:=[(5,_),(7,_)]) (Hn:=[]) ?_;exact ⟨V,V⟩
 case hbd_2=>
  intro l pre x u e9 W H1 R1 r9 U X G;obtain ⟨rfl,rfl⟩:=G;obtain ⟨m,s2,rfl,B⟩:=X;have ax:=U.len
  obtain ⟨gv,cv,rfl⟩:=B.form;refine AQ<|Zg<|Zl eK Y<|Zm Y<|Ze (Ah (vs:=[_]) (cs:=[_]) DP A6 HT Y V rfl V rfl V)<|AF fun b2=>Ze (F8 (by_:=8) (news:=[_]) DP (V:Tryz.prog.info? 3=some Tryz.t3) V rfl V rfl Y B Y Wo Wh B1 V HO B0 (by(simp only [Bk];omega)) (by(simp only [Bk];omega))) ?_;rintro _ _ ⟨sq,g,rfl⟩;obtain ⟨gq,cq,rfl⟩:=g.form;refine Xe (Zs fg Y Y rfl)<|Z0<|AA<|FZ rfl (by exact ⟨_,_,rfl,by rw [CN];exact g⟩)
 intro D1 ys H2 K J;obtain ⟨m,s2,rfl,B⟩:=J;refine Zn [2] ?_;refine AA<|C6<|Zl eK Y<|An Y<|G7 V (TZ results272 Y) Wo (by exact ⟨ys,s2,K,B,V⟩)
theorem Vd(m:Co (fun n:Int=>(Value.int .i64) n) es ck lm)(hn:lm.length<=1000000)(b mi:Nat)(g:(mi,Obj.map es ck)∈M):BS prog 190 #[.func (.func 192) #[] #[I5 b]] [[(b,.cells #[.map (some mi)] 231 (0,0))],M] (fun r H'=>∃(zs:List Int) (s':List A8),zs.Perm (lm.map (·.1))/\Row 3 r (zs.map (Value.int .i64)) s'/\H'=[M,s']):=by
 refine Se func190 ntmps190 [0] ?_;intro u R;refine A3<|AH Y<|AK Y<|Zc [_,_] Y call272 Y V (SE m hn b mi g) ?_;rintro _ _ ⟨_,⟨zs,s2,B,G,rfl⟩,rfl⟩;refine An Y<|AO V results190 Y (by exact ⟨zs,s2,B,G,V⟩)
theorem Xx(O:Co (fun n:Int=>(Value.int .i64) n) es ck lm)(hn:lm.length<=1000000)(b mi:Nat)(g:(mi,Obj.map es ck)∈M):BS prog 113 #[.func (.func 192) #[] #[I5 b]] [[(b,.cells #[.map (some mi)] 231 (0,0))],M] (fun r H'=>∃(zs:List Int) (s':List A8),zs.Perm (lm.map (·.1))/\(zs.Pairwise fun x y=>x<=y)/\Row 3 r (zs.map (Value.int .i64)) s'/\H'=[M,s']):=by
 refine Se func113 ntmps113 [0] ?_;intro u R;refine A3<|AH Y<|AK Y<|Zc [_] Y call190 Y V (Vd O hn b mi g) ?_;rintro _ _ ⟨_,⟨zs,s2,K,U,rfl⟩,rfl⟩;have I:=K.length_eq
 rw [Bk]at I;refine AH Y<|AK Y<|Zc [_] Y call191 Y V (gD U A0) ?_;rintro _ _ ⟨_,⟨J,W,rfl,m,G,B,rfl⟩,rfl⟩;refine A4<|AK Y<|An Y<|AO V results113 Y (by exact ⟨J,W,m.trans K,G,B,V⟩)
end Go.Proofs.YtlkdhannldcfbabGreatDoor
namespace Go.Proofs.YtlkdhannldcfbabGreatDoor
open Go.Proofs.Tryz
open Go Go.RowKit Gw
set_option maxRecDepth 100000
attribute [local irreducible] Gw.At Gw.Nx Gw.Ops
variable{qs:List (Int×QM)}{c:Chg}
theorem A86{sc:Int->Int->List IvM}{jn:Int->List Int}(G:Jh qs sc jn)(I:∀x∈qs,BH x.2){cs:List Chg}{k:Nat}(hc:cs[k]?=some c)(i:Int):(Jj qs (cs.take k) i\/(i∈O3 sc jn c/\Jj qs [c] i))↔Jj qs (cs.take (k+1)) i:=by
 rw [Bl hc];unfold Jj;constructor
 · rintro (⟨x,hx,B,d,g,m⟩|⟨_,x,hx,B,d,g,m⟩)
   · exact ⟨x,hx,B,d,G1 _ g,m⟩
   · exact ⟨x,hx,B,d,HK _ g,m⟩
 · rintro ⟨x,hx,B,d,g,m⟩
   rcases CD.1 g with g|g
   · exact .inl ⟨x,hx,B,d,g,m⟩
   · refine .inr ⟨?_,x,hx,B,d,g,m⟩
     rw [CH.1 g]at m;rw [<-B];exact jB G hx (I x hx) m
variable{es:Array MapEntry}{ck:Nat}{lm:List (Int×A2)}{y:Int×QM}
theorem mF(g:Et qs es ck lm)(hy:y∈qs):Jj qs [c] y.1↔Ct y.2 c=true:=by
 constructor
 · rintro ⟨x,hx,G,d,B,m⟩
   rw [CH.1 B]at m;rwa [xt g hx hy G]at m
 · intro h;exact ⟨y,hy,rfl,c,by simp,h⟩
theorem qY(g:Et qs es ck lm)(hy:y∈qs)(h:Ct y.2 c=true){S:Int->Prop}{pre:List Int}(i:Int):((S i\/(i∈pre/\Jj qs [c] i))\/i=y.1)↔(S i\/(i∈pre++[y.1]/\Jj qs [c] i)):=by
 rw [CD,CH];constructor
 · rintro ((h1|⟨h1,h2⟩)|rfl)
   · exact .inl h1
   · exact .inr ⟨.inl h1,h2⟩
   · exact .inr ⟨.inr rfl,(mF g hy).2 h⟩
 · rintro (h1|⟨h1|rfl,h2⟩)
   · exact .inl (.inl h1)
   · exact .inl (.inr ⟨h1,h2⟩)
   · exact .inr rfl
theorem A91(g:Et qs es ck lm)(hy:y∈qs){S:Int->Prop}{pre:List Int}(h:Ct y.2 c=true->S y.1\/(y.1∈pre/\Jj qs [c] y.1))(i:Int):(S i\/(i∈pre/\Jj qs [c] i))↔(S i\/(i∈pre++[y.1]/\Jj qs [c] i)):=by
 rw [CD,CH];constructor
 · rintro (h1|⟨h1,h2⟩)
   · exact .inl h1
   · exact .inr ⟨.inl h1,h2⟩
 · rintro (h1|⟨h1|rfl,h2⟩)
   · exact .inl h1
   · exact .inr ⟨h1,h2⟩
   · exact h ((mF g hy).1 h2)
theorem jE{ip mp:Nat}(J:Et qs es ck lm)(hq:∀x∈qs,BH x.2)(hl:qs.length<=500){lv:A2}{ML:List A8}(X:Xa qs lv ML)(p:Int){MC:List A8}{qa:BE}{cap:Nat}{cs:List Chg}(hC:CL MC (.slice qa cs.length cap) cs)(qx:cs.length<=1000)(d9:∀c∈cs,c.ok):BS prog 48 #[I5 ip,.agg #[I4 p,.slice qa cs.length cap]] [[(ip,.cells #[.map (some mp),lv] 200 (0,0))],[(mp,.map es ck)],ML,MC] (fun r H'=>∃(zs:List Int) (s':List A8) (lv':A2) (ML':List A8),(∀i,i∈zs↔Jj qs cs i)/\zs.Nodup/\(zs.Pairwise fun x y=>x<=y)/\Row 3 r (zs.map (Value.int .i64)) s'/\Xa qs lv' ML'/\H'=[[(ip,.cells #[.map (some mp),lv'] 200 (0,0))],[(mp,.map es ck)],ML',MC,s']):=by
 have sJ:=mL;obtain ⟨pc,q9,pg,qz,j5⟩:=id hC;injection pg with hv1 hv2 hv3
 subst hv1 hv3;have sw:=J.len
 refine DF func48 V ntmps48 V ?_;intro u R;refine Zb [0,1] ?_;refine A3<|Ze (Bx #[_])<|AF fun bx=>Ze (Bx #[I4 p,.slice qa cs.length cap])<|AF fun br=>CT Y<|A3<|Zl isAgg105 Y<|Zv (Bb underlying105 Y Y)<|A4<|AY Y (fun cO=>by cases cO)<|fun cO=>AC<|C6<|Ze (DV)<|AF fun mf=>Ze (Al zeroValue231 #[_])<|AF fun bf=>Xe (Zs sizeOf231 Y Y V)<|A4<|Zq<|A3<|Zh 1 GS V rfl Kf Y<|Zl MA Y<|Zv (AR GO Y)<|Zm Y<|A4<|AQ<|Zb [15,2,5,13,14] ?_;refine AC9 (e0:=[(15,_)]) (H0:=_) (n:=_) (fun m e H=>∃(k:Nat) (lv:A2) (ML:List A8) (O:Array MapEntry) (K:Nat) (ax:List (Int×A2)),m=cs.length -k/\(k<=cs.length/\Xa qs lv ML/\IQ (Jj qs (cs.take k)) O K ax)/\e=[(15,I4 (k:Int))]/\H=[[(ip,.cells #[.map (some mp),lv] 200 (0,0))],ML,[(mf,.map O K)]]) (by exact ⟨0,lv,ML,#[],0,[],V,⟨CM _,X,je.cong fun i=>by unfold Jj;simp⟩,V,V⟩) Wp ?_;rintro Ds _ _ _ ⟨k,lv,ML,O,K,ax,rfl,⟨hk,X,hF⟩,rfl,rfl⟩;refine A3<|Zv (Ap Y Y)<|A4<|Zq<|Ak Y (fun l8=>?_) (fun l8=>?_);·
  obtain ⟨c,hc⟩:∃c,cs[k]?=some c:=⟨_,BT A0⟩;have af:=d9 c (Ek hc)
  have sM:=fZ af;obtain ⟨g,off,cur,T,zz,rfl,o8,qh,ek⟩:=j5 k c hc;refine B3<|Zq<|AQ<|A3<|BX (AZ GO Cl Y Y A0)<|Bu (HY Wo (o8)) (A9 (cs:=c.BM3) HD Cl Y A0 ek) V rfl<|Ze (Al N1 #[_,_,_,_,_,_,_,_,_,_])<|AF fun bc=>Xe (Xw Cl c.BM3)<|A4<|Zq<|Ay (n:=4) (0::1::0::7::[]) 10 AD AD V<|Bm 0 V isAgg105 Y<|G3 2 V Wh (A9 (cs:=#[_,_,_,_,_,_,_,_,_,_]) HD Cl Y Wn (Az V))<|Zz (l:=[1])<|BW [true,false] [(2,(_,_))] V rfl (Zw [_] Y call111 Y V (A66 J hq hl X)) ?_ Bv Aj;rintro _ _ ⟨_,⟨lp,cu,sc,jn,rfl,hL,hW,rfl⟩,rfl⟩;refine C3<|Zz (l:=[3])<|BW [false] [] V rfl (Zw [_,_] Y call112 Y V (ow lp c)) ?_ Bv Aj;rintro _ _ ⟨_,⟨bl,bn,rfl,rfl⟩,rfl⟩;refine C3<|Aq<|Zx<|AQ<|Zb [2,5,7,13,14,15,22] ?_;refine QC (H0:=_) (R:=_) (I:=(fun(pre:List Int) H=>∃G B U,IQ (fun i=>Jj qs (cs.take k) i\/(i∈pre/\Jj qs [c] i)) G B U/\H=[[(ip,.cells #[.map (some mp),I5 lp] 200 (0,0))],[(mp,.map es ck)],cu,[(mf,.map G B)],[(bf,.cells #[.map (some mf)] 231 (0,0))],[(bx,.cells #[I5 ip] 105 (0,0))],[(bc,.cells c.BM3 73 (0,0))]])) (E:=fun x e Hn=>e=[(8,I4 x),(23,I4 x)]/\Hn=[]) rfl Y call187 (oz hL c (fU af) A0 (hW.small c.t) bn bl) (by rintro pre _ c1 c2 ⟨qw,qo,sO,h9,rfl⟩;intro q p8;simp [p8]) Y rfl Wp (⟨O,K,ax,hF.cong fun i=>by simp,rfl⟩) ?ha_5 ?hbd_5 ?hk_5
  case ha_5=>
   intro _ x _ _;refine Zg<|B2 Y<|LP (e:=[(8,_),(23,_)]) (Hn:=[]) ?_;exact ⟨V,V⟩
  case hbd_5=>
   intro l pre x qj u e9 ql H1 R1 r9 pq hI ic;obtain ⟨rfl,rfl⟩:=ic;obtain ⟨G,B,U,hG,rfl⟩:=hI;obtain ⟨y,hy,rfl⟩:=A60 hW (c:=c) (i:=x) (by rw [pq];simp);have l5:=J.get hy
   have qb:Decidable (Jj qs (cs.take k) y.1\/(y.1∈pre/\Jj qs [c] y.1)):=Classical.propDecidable _;have kv:=hG.get y.1
   refine AQ<|Zq<|Ay (n:=14) (0::0::3::7::15::31::63::127::255::31::1023::31::4095::8191::[]) 4096 AD AD V<|Bm 0 V isAgg231 Y<|A1 1 V (AP Y)<|G3 2 V Wh (Du (Cf D3 (D:=fun _=>True)) underlying231 V1 hG.map (fun _ _=>trivial) (trivial) (kv) Y Y)<|A1 3 V (CG Y)<|A1 4 V (AP Y)<|Cs (t:=28) Y (fun W=>?_) (fun W=>?_);focus
    rw [DE W];refine FF 5 rfl Wh (BK isAgg105 Y B1)<|B4 6 rfl (Ao Y rfl)<|B4 7 rfl (AB (off:=0) S4 rfl rfl fY Y)<|FF 8 rfl Wh (BK fk Y B1)<|B4 9 rfl (AP Y)<|FF 10 rfl Wh (Du (Cf D3 (D:=fun _=>True)) eN RC J.map (fun _ _=>trivial) (trivial) (by rw [l5];first|done|rfl) Y Y)<|FF 11 rfl Wh (A9 (cs:=c.BM3) HD Cl Y Wn (Az rfl))<|Yw 12 8191 rfl (Zu [_,_] Y call108 Y rfl (L9 y.2 c)) ?_;rintro _ _ ⟨rfl,rfl⟩;rw [DE (hq y hy),DE af,Ys,Ys];refine A1 13 V (AU Y Y)<|Aq<|Zn [5,8,37] ?_;refine Zx<|AY Y (fun Z=>?_) (fun Z=>?_);·
     have h9:=Z;refine Zg<|Zl isAgg231 Y<|Zm Y<|Ze (FK (Cf D3 (D:=fun _=>True)) underlying231 hG.map (fun _ _=>trivial) (trivial) Y Y Y Wo) ?_;rintro _ _ ⟨rfl,gQ,gy,pz,l9,o9,rfl⟩;refine Z0<|AA<|FZ V (by exact ⟨gQ,gy,pz,(hG.put l9 o9).cong (qY J hy h9),V⟩)
    focus
     have h9:Ct y.2 c=true->Jj qs (cs.take k) y.1\/(y.1∈pre/\Jj qs [c] y.1):=fun h=>by rw [Z]at h;cases h
   rotate_left
   focus
    rw [DQ W];have h9:Ct y.2 c=true->Jj qs (cs.take k) y.1\/(y.1∈pre/\Jj qs [c] y.1):=fun _=>HP.1 W
    refine AW 5 V<|AW 6 V<|AW 7 V<|AW 8 V<|AW 9 V<|AW 10 V<|AW 11 V<|AW 12 V<|A1 13 V (AJ Y Y)<|Aq<|Zn [5,8,37] ?_;refine Zx<|Df Y ?_
   all_goals
    refine AC<|AA<|FZ V (by exact ⟨G,B,U,hG.cong (A91 J hy h9),V⟩)
  intro D1 H2 j3;obtain ⟨G,B,U,hG,rfl⟩:=j3;refine Zn [2,5,13,14,15] ?_;refine AA<|AA<|Zx<|Dg Y Y Y<|Zn [15,2,5,13,14] ?_;refine j4 (Ds:=Ds) (e':=[(15,_)]) (by exact ⟨k+1,_,cu,G,B,U,V,⟨by omega,.inr ⟨lp,sc,jn,V,hL,hW⟩,hG.cong (A86 hW hq hc)⟩,V,V⟩) Wo Wo
 obtain rfl:k=cs.length:=by omega
 rw [HE]at hF;refine BA<|Zt<|Zt<|AX<|Zx<|Zq ?_;have sj:=hF.len (qs:=qs) fun i h=>by
  obtain ⟨x,hx,he,_⟩:=h;exact ⟨x,hx,he⟩
 refine Zg<|Zl isAgg231 Y<|Zc [_] Y call114 Y V (jP mf) ?_;rintro _ _ ⟨_,⟨bk,rfl,rfl⟩,rfl⟩;refine Zc [_] Y call113 Y V (Xx hF.map A0 bk mf (M:=[(mf,.map O K)]) B7) ?_;rintro _ _ ⟨_,⟨zs,s4,gm,gq,p9,rfl⟩,rfl⟩;refine An Y<|A58 (Ds:=Ds) rfl (TZ results48 Y) Wo (by exact ⟨zs,s4,lv,ML,fun i=>by rw [gm.mem_iff,hF.mem],gm.nodup_iff.2 hF.map.keys,gq,p9,X,rfl⟩)
theorem SB(b:Nat)(v:A2):BS prog 138 #[I5 b] [[(b,.cells #[.pointer none,v] 159 (0,0))]] (fun r H'=>r= .tuple #[]/\H'=[[(b,.cells #[I5 b,v] 159 (0,0))]]):=by
 refine Se func138 ntmps138 [0] ?_;intro u R;refine AK Y<|Zp Y V<|Zh 0 S2 V rfl fS Y<|Zl isAgg156 Y<|Zv (O1 eM Y Y)<|A4<|AY Y (fun g=>?_) (fun g=>?_);·
  refine Zg<|Zm Y<|Zm Y<|Zo Wh (ak (c:=#[.pointer none,v]) eM od (V:Tryz.prog.info? 159=some Tryz.t159) B0 (Nat.zero_lt_succ 1) Y) ?_;refine LM (A51 (vs:=[_]) (e:=Extern.AbiNoEscape.same) func221 AD AD AD AD Y Y) V rfl<|Zo Wh (VR od eM (V:Tryz.prog.info? 159=some Tryz.t159) (show liesAt _ _ _ (2/_) 0 _ 1=true from by kernel_rfl) Y) ?_;refine Zp Y V<|Zh 0 S2 V rfl fS Y<|Xe (Zs fS Y Y V)<|Z0<|DC V results138 (by exact ⟨V,V⟩)
 cases g
theorem N7(b:Nat)(v:A2):BS prog 138 #[I5 b] [[(b,.cells #[I5 b,v] 159 (0,0))]] (fun r H'=>r= .tuple #[]/\H'=[[(b,.cells #[I5 b,v] 159 (0,0))]]):=by
 refine Se func138 ntmps138 [0] ?_;intro u R;refine AK Y<|Zp Y V<|Zh 0 S2 V rfl fS Y<|Zl isAgg156 Y<|Zv (Bb eM Y Y)<|A4<|AY Y (fun g=>by cases g)<|fun g=>AK Y<|Zp Y V<|Zh 0 S2 V rfl fS Y<|Zl isAgg156 Y<|Zm Y<|LM (UC eM (V:Tryz.prog.info? 159=some Tryz.t159) Y Y) V rfl ?_;refine A4<|Df Y<|AC<|DC V results138 (by exact ⟨V,V⟩)
theorem Oz(b:Nat)(v:A2)(l x:List UInt8)(G:List A8)(g:Row 5 v (l.map u8v) G)(h0:0<x.length)(hb:l.length+x.length<=1099511627776):BS prog 65 #[I5 b,.string (str x)] [[(b,.cells #[.pointer none,v] 159 (0,0))],G] (fun r H'=>∃I B K,Row 5 I ((l++x).map u8v) B/\r=K/\H'=[[(b,.cells #[I5 b,I] 159 (0,0))],B]):=by
 have J:=mL;obtain ⟨Z,W,rfl⟩:=g.form;refine Se func65 ntmps65 [0,1] ?_;intro u R;refine A3<|Za Y<|AH Y<|AK Y<|Zc [_] Y call138 Y V (SB b _) ?_;rintro _ _ ⟨_,⟨rfl,rfl⟩,rfl⟩;refine A4<|AK Y<|Zm Y<|Zp Y V<|Zh 1 S2 V rfl RK Y<|Zl S5 Y<|Zm Y<|Ze (PH (by_:=1) Hi GW (V:Tryz.prog.info? 5=some Tryz.t5) V rfl V rfl Y g Y Wo A0 (by(rw [Bk];omega)) (by(rw [Bk];omega))) ?_;rintro _ _ ⟨O,m,rfl⟩;obtain ⟨X,U,rfl⟩:=m.form;refine Zp Y V<|Zh 1 S2 V rfl RK Y<|Xe (Zs RK Y Y V)<|Z0<|Zn [1] ?_;refine Zx<|AK Y<|Zv (GL GW Y)<|Za Y<|An Y<|DR rfl results65 Y Y (by exact ⟨_,O,_,(by rw [CN];exact m),rfl,rfl⟩)
theorem QL(b:Nat)(v:A2)(l x:List UInt8)(G:List A8)(g:Row 5 v (l.map u8v) G)(h0:0<x.length)(hb:l.length+x.length<=1099511627776):BS prog 65 #[I5 b,.string (str x)] [[(b,.cells #[I5 b,v] 159 (0,0))],G] (fun r H'=>∃I B K,Row 5 I ((l++x).map u8v) B/\r=K/\H'=[[(b,.cells #[I5 b,I] 159 (0,0))],B]):=by
 have J:=mL;obtain ⟨Z,W,rfl⟩:=g.form;refine Se func65 ntmps65 [0,1] ?_;intro u R;refine A3<|Za Y<|AH Y<|AK Y<|Zc [_] Y call138 Y V (N7 b _) ?_;rintro _ _ ⟨_,⟨rfl,rfl⟩,rfl⟩;refine A4<|AK Y<|Zm Y<|Zp Y V<|Zh 1 S2 V rfl RK Y<|Zl S5 Y<|Zm Y<|Ze (PH (by_:=1) Hi GW (V:Tryz.prog.info? 5=some Tryz.t5) V rfl V rfl Y g Y Wo A0 (by(rw [Bk];omega)) (by(rw [Bk];omega))) ?_;rintro _ _ ⟨O,m,rfl⟩;obtain ⟨X,U,rfl⟩:=m.form;refine Zp Y V<|Zh 1 S2 V rfl RK Y<|Xe (Zs RK Y Y V)<|Z0<|Zn [1] ?_;refine Zx<|AK Y<|Zv (GL GW Y)<|Za Y<|An Y<|DR rfl results65 Y Y (by exact ⟨_,O,_,(by rw [CN];exact m),rfl,rfl⟩)
theorem Oq(b g cap:Nat)(p:A2)(l:List UInt8)(cur:AN)(z:Nat×Nat)(h0:0<l.length)(hc:cap≠0)(B:l.length<=9223372036854775807)(m:cur.toList.take l.length=l.map u8v):BS prog 69 #[I5 b] [[(b,.cells #[p,I6 g l.length cap] 159 (0,0))],[(g,.cells cur 5 z)]] (fun r H'=>r= .string (str l)/\H'=[[(b,.cells #[p,I6 g l.length cap] 159 (0,0))]]):=by
 refine Se func69 ntmps69 [0] ?_;intro u R;refine A3<|CT Y<|Ay (n:=12) (0::1::3::7::15::0::32::96::224::480::1023::2047::[]) 1040 AD AD V<|A1 0 V (AP Y)<|A1 1 V (Ao Y V)<|A1 2 V (AB (off:=1) S2 V rfl RK Y)<|Bm 3 V S5 Y<|A1 5 V (AP Y)<|A1 6 V (Ao Y V)<|A1 7 V (AB (off:=1) S2 V rfl RK Y)<|Bm 8 V S5 Y<|A1 9 V (AR Hi Y)<|Zz (l:=[4])<|BW [true,false] [(8,(_,_))] V rfl (ZH Y hc) ?_ (fun _ _ h=>h.elim) Aj;rintro _ _ ⟨rfl,rfl⟩;refine C3<|Yw 10 2047 V (Sm (l:=l) underlying252 AD Y Y (List.ne_nil_of_length_pos h0) B Wo m)<|F0<|A1 11 V (BC Y)<|Aq<|Zn [2] ?_;refine Zx<|AL<|AO V results69 Y (by exact ⟨V,V⟩)
def P9(k:Int):List UInt8:=if k=1 then [114,111,119]else if k=2 then [114,111,119,115]else if k=3 then [99,111,117,110,116]else if k=4 then [115,117,109]else if k=5 then [109,105,110]else if k=6 then [109,97,120]else [106,111,105,110]
def KL(k:Int):List Nat:=if k=1 then [1,3]else if k=2\/k=3 then [1,2,3,4]else if k=7 then [5,6,1,2,3,4]else [5,1,2,3,4]
def YW(k:Int):Nat:=if k=1 then 134 else if k=2\/k=3 then 135 else if k=7 then 137 else 136
def Ja(k:Int)(i:Int):List UInt8:=if i=1 then(if k=4\/k=5\/k=6 then [111,102]else if k=7 then [116,111]else [])else if i=2/\k=7 then [111,102]else []
def O6(k:Int)(g1 g7:Nat):A2:=if k=7 then .map (some g7)else if k=4\/k=5\/k=6 then .map (some g1)else .map none
def QQ(q:QM)(o:Nat):Int:=if o=1 then q.tb else if o=2 then q.cl else if o=3 then q.lo else if o=4 then q.hi else if o=5 then q.bq else q.ot
def aW(l x:List UInt8):List UInt8:=l++32::x
def VV(q:QM)(l:List UInt8)(i:Nat):List UInt8:=if Ja q.kd i=[]then l else aW l (Ja q.kd i)
def upP(q:QM):Nat->List UInt8
 |0=>P9 q.kd
 |i+1=>aW (VV q (upP q i) i) (Lib.itoa (QQ q ((KL q.kd).getD i 0)))
theorem A04(q:QM)(i:Nat):upP q (i+1)=aW (VV q (upP q i) i) (Lib.itoa (QQ q ((KL q.kd).getD i 0))):=rfl
def DI(q:QM):List UInt8:=upP q (KL q.kd).length
theorem wW(k:Int):(KL k).length<=6:=by
 unfold KL;split;· decide
 · split
   · decide
   · split<;>decide
theorem wU(k:Int):0<(KL k).length:=by
 unfold KL;split;· decide
 · split
   · decide
   · split<;>decide
theorem xx(k:Int):∀o∈KL k,o<=6:=by
 unfold KL;split;· decide
 · split
   · decide
   · split<;>decide
theorem xy(k:Int):∀o∈KL k,1<=o:=by
 unfold KL;split;· decide
 · split
   · decide
   · split<;>decide
theorem wK:∀(k u:Nat),1<=k->u<10^k->Lib.nDigits u<=k
 |0,_,h,_=>by omega
 |k+1,u,_,h=>by
  by_cases g:u<10
  · rw [Lib.nDigits_small g];omega
  · rw [Lib.nDigits_big g]
    have m:1<=k:=by
     rcases Rg k with rfl|h2
     · simp at h;omega
     · exact h2
    have:=wK k (u/10) m (by rw [el]at h;omega);omega
theorem bZ(n:Int)(h:-9223372036854775808<=n/\n<=9223372036854775807):0<(Lib.itoa n).length/\(Lib.itoa n).length<=21:=by
 unfold Lib.itoa;split
 · rw [F2,Lib.decDigits_length]
   have:=wK 20 n.natAbs B0 A0;omega
 · rw [Lib.decDigits_length]
   have:=wK 20 n.toNat B0 A0;have:=Lib.nDigits_pos n.toNat
   omega
theorem Ud(k i:Int):(Ja k i).length<=2:=by
 unfold Ja;split
 · split
   · decide
   · split<;>decide
 · split<;>decide
theorem ZE(k:Int):0<(P9 k).length/\(P9 k).length<=5:=by
 unfold P9;split;· decide
 · split
   · decide
   · split
     · decide
     · split
       · decide
       · split
         · decide
         · split<;>decide
theorem SH{q:QM}(g:∀o,-9223372036854775808<=QQ q o/\QQ q o<=9223372036854775807):∀i,0<(upP q i).length/\(upP q i).length<=5+25*i
 |0=>by
  have:=ZE q.kd;unfold upP;omega
 |i+1=>by
  have h:=SH g i;have m:=bZ _ (g ((KL q.kd).getD i 0))
  have h2:=Ud q.kd i;unfold upP VV aW;rw [C0,F2];split;· omega
  · rw [C0,F2];omega
theorem bE(q:QM)(l:List UInt8)(i:Nat):(VV q l i).length<=l.length+3:=by
 have:=Ud q.kd i;unfold VV aW;split;· omega
 · rw [C0,F2];omega
theorem AE9{q:QM}(h:BH q)(o:Nat):-9223372036854775808<=QQ q o/\QQ q o<=9223372036854775807:=by
 obtain ⟨g,h2,m,B⟩:=h;unfold QQ;split;· omega
 · split
   · omega
   · split
     · omega
     · split
       · omega
       · split<;>omega
theorem tu(q:QM){o:Nat}(g:1<=o)(h2:o<=6):(q.BM5:AN)[o]?=some (I4 (QQ q o)):=by
 rcases (by omega:o=1\/o=2\/o=3\/o=4\/o=5\/o=6)with rfl|rfl|rfl|rfl|rfl|rfl<;>rfl
theorem XB(n:Int)(hn:-9223372036854775808<=n/\n<=9223372036854775807)(Tp:AM)(zp:Nat×Nat):Au prog 68 #[I4 n] [[(3,.cells (Lib.pow10Tab.map fun z=>Value.int .u64 z).toArray Tp zp)]] (.string (str (Lib.itoa n))):=fun u R w hs=>by
 have hg:=hs.get (3,.cells (Lib.pow10Tab.map fun z=>Value.int .u64 z).toArray Tp zp) B7;refine (Tryz.strconv_Itoa n hn.1 hn.2 w ?_).mono ?_
 · unfold Lib.TabIs World.var?
   rw [show Tryz.prog.globalNamed "internal/strconv.uint64pow10"=some 3 by kernel_rfl];simp only [LR,hg]
 · rintro e w' ⟨rfl,k,os,rfl⟩
   exact .inl ⟨_,_,V,⟨V,V⟩,TM hs k os⟩
theorem YE{P:Program}{α:Type}{κ:α->A2}{D:α->Prop}{k:α}{env:Env}{d:Option Nat}{ty:AM}{pos:String}{af:Array Edge}{g:Option (Nat×Bool)}{t kt G:AM}{m x:Operand}{z:A2}(I:GD P kt κ D)(K:P.underlying t=some (.map kt G))(hz:∀w:A5,(zeroValue G).run P w= .ok z w)(J:D k)(hx:∀a,ev a env m= .map none)(hy:∀a,ev a env x=κ k):
 OpP P ⟨d,.lookup t m x true,ty,pos,af,g⟩ env [] (.tuple #[z,.bool false]):=fun a w O=>by
 show((do pure (Next.value (<-Instr.lookup t (ev a env m) (ev a env x) true))):Sem Next).run P w=_;rw [hx a,hy a];have B:(Instr.findKey kt (κ k) []).run P w= .ok none w:=by
  rcases IL I (EU κ) (fun p h=>by cases h) w k J with⟨B,_⟩|⟨j,v,_,h2⟩
  · exact B
  · simp at h2
 simp only [Instr.lookup,Sem.run_bind,run_underlying K,Result.andThen,FB I J,Sem.run_pure,B,hz];rfl
theorem nz(bq:Nat):BS prog 134 #[I5 bq] [] (fun r H'=>∃s,Row 168 r (([1,3]:List Nat).map fun o=> .pointer (some ⟨bq,o,none⟩)) s/\H'=[s]):=by
 refine Se func134 ntmps134 [0] ?_;intro u R;refine A3<|CT Y<|Ay (n:=8) (0::1::3::0::8::24::63::127::[]) 64 AD AD V<|A1 0 V (AP Y)<|A1 1 V (Ao Y V)<|A1 2 V (AB (off:=1) DB V rfl A6 Y)<|A1 3 V (AP Y)<|A1 4 V (Ao Y V)<|A1 5 V (AB (off:=3) DB V rfl A6 Y)<|Zz (l:=[6])<|BW [] [] V rfl (Ah (vs:=[_,_]) (cs:=[_,_]) ao Z2 ar Y V rfl V rfl V) ?_ (fun _ _ h=>h.elim) Aj;rintro _ _ ⟨g,rfl,rfl⟩;refine C3<|A1 7 V (BC Y)<|Aq<|Zx<|AL<|AO V results134 Y (by exact ⟨_,NI _ g [.pointer (some ⟨bq,1,none⟩),.pointer (some ⟨bq,3,none⟩)] 2 V B0,V⟩)
theorem Ig(bq:Nat):BS prog 135 #[I5 bq] [] (fun r H'=>∃s,Row 168 r (([1,2,3,4]:List Nat).map fun o=> .pointer (some ⟨bq,o,none⟩)) s/\H'=[s]):=by
 refine Se func135 ntmps135 [0] ?_;intro u R;refine A3<|CT Y<|Ay (n:=14) (0::1::3::0::8::24::0::64::192::0::512::1536::4095::8191::[]) 4096 AD AD V<|A1 0 V (AP Y)<|A1 1 V (Ao Y V)<|A1 2 V (AB (off:=1) DB V rfl A6 Y)<|A1 3 V (AP Y)<|A1 4 V (Ao Y V)<|A1 5 V (AB (off:=2) DB V rfl A6 Y)<|A1 6 V (AP Y)<|A1 7 V (Ao Y V)<|A1 8 V (AB (off:=3) DB V rfl A6 Y)<|A1 9 V (AP Y)<|A1 10 V (Ao Y V)<|A1 11 V (AB (off:=4) DB V rfl A6 Y)<|Zz (l:=[12])<|BW [] [] V rfl (Ah (vs:=[_,_,_,_]) (cs:=[_,_,_,_]) ao Z2 ar Y V rfl V rfl V) ?_ (fun _ _ h=>h.elim) Aj;rintro _ _ ⟨g,rfl,rfl⟩;refine C3<|A1 13 V (BC Y)<|Aq<|Zn [2] ?_;refine Zx<|AL<|AO V results135 Y (by exact ⟨_,NI _ g [.pointer (some ⟨bq,1,none⟩),.pointer (some ⟨bq,2,none⟩),.pointer (some ⟨bq,3,none⟩),.pointer (some ⟨bq,4,none⟩)] 4 V B0,V⟩)
theorem tF(bq:Nat):BS prog 136 #[I5 bq] [] (fun r H'=>∃s,Row 168 r (([5,1,2,3,4]:List Nat).map fun o=> .pointer (some ⟨bq,o,none⟩)) s/\H'=[s]):=by
 have O:=mL;refine Se func136 ntmps136 [0] ?_;intro u R;refine A3<|CT Y<|Ay (n:=8) (0::1::3::7::0::16::63::127::[]) 104 AD AD V<|A1 0 V (AP Y)<|A1 1 V (Ao Y V)<|A1 2 V (AB (off:=5) DB V rfl A6 Y)<|A1 4 V (AP Y)<|Zz (l:=[3,5])<|BW [] [] V rfl (Ah (vs:=[_]) (cs:=[_]) ao Z2 ar Y V rfl V rfl V) ?hk_1 (fun _ _ h=>h.elim) ?hl_1
 case' hk_1=>
  rintro _ _ ⟨g,rfl,rfl⟩;refine C3<|Zz (l:=[5])<|BW [] [] V rfl (Zw [_] Y call135 Y V (Ig bq)) ?hk_2 Bv ?hl_2
  case' hk_2=>
   rintro _ _ ⟨_,⟨s2,m,rfl⟩,rfl⟩;refine ⟨Ab,?_⟩;obtain ⟨J,G,rfl⟩:=m.form
  case' hl_2=>
   exact Aj
 case' hl_1=>
  refine BW [] [] V rfl (Zw [_] Y call135 Y V (Ig bq)) ?hk_5 Bv ?hl_5
  case' hk_5=>
   rintro _ _ ⟨_,⟨s2,m,rfl⟩,rfl⟩;refine ⟨Ab,?_⟩;obtain ⟨J,G,rfl⟩:=m.form;refine Yw 3 63 V (Ah (vs:=[_]) (cs:=[_]) ao Z2 ar Y V rfl V rfl V) ?_;rintro _ _ ⟨g,rfl,rfl⟩
  case' hl_5=>
   exact Aj
 all_goals
  refine Yw 6 127 V (L8 (by_:=8) ao (V:Tryz.prog.info? 168=some Tryz.t168) V rfl V rfl Y ((NI _ g [.pointer (some ⟨bq,5,none⟩)] 1 V B0)) Y (m) Wo Wo HO (by((simp;omega))) (by((simp;done)))) ?_;rintro _ _ ⟨U,B,rfl⟩;obtain ⟨K,I,rfl⟩:=B.form;refine A1 7 V (BC Y)<|Aq<|Zx<|AL<|AO V results136 Y (by exact ⟨_,B,V⟩)
theorem jS(bq:Nat):BS prog 137 #[I5 bq] [] (fun r H'=>∃s,Row 168 r (([5,6,1,2,3,4]:List Nat).map fun o=> .pointer (some ⟨bq,o,none⟩)) s/\H'=[s]):=by
 have O:=mL;refine Se func137 ntmps137 [0] ?_;intro u R;refine A3<|CT Y<|Ay (n:=11) (0::1::3::0::8::24::63::0::128::511::1023::[]) 832 AD AD V<|A1 0 V (AP Y)<|A1 1 V (Ao Y V)<|A1 2 V (AB (off:=5) DB V rfl A6 Y)<|A1 3 V (AP Y)<|A1 4 V (Ao Y V)<|A1 5 V (AB (off:=6) DB V rfl A6 Y)<|A1 7 V (AP Y)<|Zz (l:=[6,8])<|BW [] [] V rfl (Ah (vs:=[_,_]) (cs:=[_,_]) ao Z2 ar Y V rfl V rfl V) ?hk_1 (fun _ _ h=>h.elim) ?hl_1
 case' hk_1=>
  rintro _ _ ⟨g,rfl,rfl⟩;refine C3<|Zz (l:=[8])<|BW [] [] V rfl (Zw [_] Y call135 Y V (Ig bq)) ?hk_2 Bv ?hl_2
  case' hk_2=>
   rintro _ _ ⟨_,⟨s2,m,rfl⟩,rfl⟩;refine ⟨Ab,?_⟩;obtain ⟨J,G,rfl⟩:=m.form
  case' hl_2=>
   exact Aj
 case' hl_1=>
  refine BW [] [] V rfl (Zw [_] Y call135 Y V (Ig bq)) ?hk_5 Bv ?hl_5
  case' hk_5=>
   rintro _ _ ⟨_,⟨s2,m,rfl⟩,rfl⟩;refine ⟨Ab,?_⟩;obtain ⟨J,G,rfl⟩:=m.form;refine Yw 6 511 V (Ah (vs:=[_,_]) (cs:=[_,_]) ao Z2 ar Y V rfl V rfl V) ?_;rintro _ _ ⟨g,rfl,rfl⟩
  case' hl_5=>
   exact Aj
 all_goals
  refine Yw 9 1023 V (L8 (by_:=8) ao (V:Tryz.prog.info? 168=some Tryz.t168) V rfl V rfl Y ((NI _ g [.pointer (some ⟨bq,5,none⟩),.pointer (some ⟨bq,6,none⟩)] 2 V B0)) Y (m) Wo Wo HO (by((simp;omega))) (by((simp;done)))) ?_;rintro _ _ ⟨U,B,rfl⟩;obtain ⟨K,I,rfl⟩:=B.form;refine A1 10 V (BC Y)<|Aq<|Zx<|AL<|AO V results137 Y (by exact ⟨_,B,V⟩)
def Ug(g1 g7:Nat):List (Int×A2):=[(1,.agg #[.string ⟨#[114,111,119]⟩,.func (.func 134) #[] #[],.map none]),(2,.agg #[.string ⟨#[114,111,119,115]⟩,.func (.func 135) #[] #[],.map none]),(3,.agg #[.string ⟨#[99,111,117,110,116]⟩,.func (.func 135) #[] #[],.map none]),(4,.agg #[.string ⟨#[115,117,109]⟩,.func (.func 136) #[] #[],.map (some g1)]),(5,.agg #[.string ⟨#[109,105,110]⟩,.func (.func 136) #[] #[],.map (some g1)]),(6,.agg #[.string ⟨#[109,97,120]⟩,.func (.func 136) #[] #[],.map (some g1)]),(7,.agg #[.string ⟨#[106,111,105,110]⟩,.func (.func 137) #[] #[],.map (some g7)])]
theorem dK{g m:Nat}(h:∀p,p∈lm↔p∈Ug g m)(hn:(lm.map (·.1)).Nodup){k:Int}(B:1<=k/\k<=7):EM k lm=some (.agg #[.string (str (P9 k)),.func (.func (YW k)) #[] #[],O6 k g m]):=by
 have G:∀{k:Int} {v:A2},(k,v)∈Ug g m->EM k lm=some v:=fun B=>D8 hn ((h _).2 B);obtain h9|h9|h9|h9|h9|h9|h9:k=1\/k=2\/k=3\/k=4\/k=5\/k=6\/k=7:=by omega
 all_goals subst h9
 all_goals exact G (by simp [Ug,YW,P9,O6,str])
structure kY(l1 l7:List (Int×A2)):Prop where
 a:∀p,p∈l1↔p=(1,.string ⟨#[111,102]⟩)
 b:∀p,p∈l7↔p=(2,.string ⟨#[111,102]⟩)\/p=(1,.string ⟨#[116,111]⟩)
theorem qR(k:Int)(g m:Nat):(O6 k g m).oneCell'=true:=by
 unfold O6;split;· rfl
 · split<;>rfl
theorem xY{env:Env}{d:Option Nat}{ty:AM}{pos:String}{af:Array Edge}{g:Option (Nat×Bool)}{m x:Operand}{q:QM}(hq:1<=q.kd/\q.kd<=7){U W:Nat}{e1 e7:Array MapEntry}{c1 c7:Nat}{l1 l7:List (Int×A2)}(h1:Co (fun n:Int=>Value.int .i64 n) e1 c1 l1)(X:Co (fun n:Int=>Value.int .i64 n) e7 c7 l7)(J:kY l1 l7){i:Nat}(hx:∀a,ev a env m=O6 q.kd U W)(hy:∀a,ev a env x=I4 (i:Int)):
 OpP prog ⟨d,.lookup 108 m x true,ty,pos,af,g⟩ env [(U,.map e1 c1),(W,.map e7 c7)] (.tuple #[.string (str (Ja q.kd i)),.bool (decide (Ja q.kd i≠[]))]):=by
 have hz:=I2;have hu:=eo
 by_cases B:q.kd=7
 · have cu:∀a,ev a env m= .map (some W):=fun a=>by rw [hx a];unfold O6;rw [Ax B]
   have:=EO (d:=d) (ty:=ty) (pos:=pos) (af:=af) (g:=g) (v0:= .string (str (Ja q.kd i))) (b0:=decide (Ja q.kd i≠[])) (Cf D3 (D:=fun _=>True)) hu hz X (fun _ _=>trivial) trivial (k:=(i:Int)) (by
    unfold Ja;rw [B];by_cases I:(i:Int)=1;· rw [I,D8 X.keys ((J.b (1,_)).2 (.inr rfl))];exact ⟨rfl,rfl⟩
    · by_cases a2:(i:Int)=2
      · rw [a2,D8 X.keys ((J.b (2,_)).2 (.inl rfl))];exact ⟨rfl,rfl⟩
      · rw [DY fun p Z K=>by rcases (J.b p).1 Z with rfl|rfl<;>simp at K<;>omega,As I,As A0];exact ⟨rfl,rfl⟩) cu hy
   exact fun a w O=>this a w fun c hc=>O c (by rw [CH.1 hc];simp)
 · by_cases G:q.kd=4\/q.kd=5\/q.kd=6
   · have bn:∀a,ev a env m= .map (some U):=fun a=>by rw [hx a];unfold O6;rw [As B,Ax G]
     have:=EO (d:=d) (ty:=ty) (pos:=pos) (af:=af) (g:=g) (v0:= .string (str (Ja q.kd i))) (b0:=decide (Ja q.kd i≠[])) (Cf D3 (D:=fun _=>True)) hu hz h1 (fun _ _=>trivial) trivial (k:=(i:Int)) (by
      unfold Ja;by_cases I:(i:Int)=1;· rw [Ax I,Ax G,I,D8 h1.keys ((J.a (1,_)).2 rfl)];exact ⟨rfl,rfl⟩
      · rw [DY fun p Z K=>by rw [(J.a p).1 Z]at K;simp at K;omega,As I,As A0];exact ⟨rfl,rfl⟩) bn hy
     exact fun a w O=>this a w fun c hc=>O c (by rw [CH.1 hc];simp)
   · have ax:∀a,ev a env m= .map none:=fun a=>by rw [hx a];unfold O6;rw [As B,As G]
     have hg:Ja q.kd i=[]:=by
      unfold Ja;rw [As G,As B];split;· rfl
      · split
        · rename_i h9;exact absurd h9.2 B
        · rfl
     rw [hg];have:=YE (d:=d) (ty:=ty) (pos:=pos) (af:=af) (g:=g) (Cf D3 (D:=fun _=>True)) hu hz (k:=(i:Int)) trivial ax hy
     exact fun a w O=>this a w fun c hc=>by cases hc
theorem Uf:BS prog 64 #[] [] (fun v H'=>∃b es ck lm g e1 c1 l1 m e7 c7 l7,v= .map (some b)/\Co (fun n:Int=>Value.int .i64 n) es ck lm/\(∀p,p∈lm↔p∈Ug g m)/\Co (fun n:Int=>Value.int .i64 n) e1 c1 l1/\Co (fun n:Int=>Value.int .i64 n) e7 c7 l7/\kY l1 l7/\H'=[[(b,.map es ck)],[(g,.map e1 c1)],[(m,.map e7 c7)]]):=by
 refine Se func64 ntmps64 [] ?_;intro u R;refine A3<|AH Y<|A3<|Ze (DV)<|AF fun g=>Ze (EH (Cf D3 (D:=fun _=>True)) eo (EU _) (fun _ _=>trivial) (trivial) Y Y Y Wo) ?_;rintro _ _ ⟨rfl,I,B,af,K,W,rfl⟩;refine Zm Y<|AH Y<|A3<|Ze (DV)<|AF fun mb=>Zv (BN (vs:=[(0,.string ⟨#[114,111,119]⟩),(1,.func (.func 134) #[] #[]),(2,.map none)]) (cs:=#[.string ⟨#[114,111,119]⟩,.func (.func 134) #[] #[],.map none]) Y (Aa (pl:=#[(0,1),(1,1),(2,1)]) Wc aq (fun _=>by kernel_rfl) AD))<|Ze (EH (Cf D3 (D:=fun _=>True)) cM (EU _) (fun _ _=>trivial) (trivial) Y Y Y Wo) ?_;rintro _ _ ⟨rfl,qh,pg,qz,cO,ic,rfl⟩;refine Zv (BN (vs:=[(0,.string ⟨#[114,111,119,115]⟩),(1,.func (.func 135) #[] #[]),(2,.map none)]) (cs:=#[.string ⟨#[114,111,119,115]⟩,.func (.func 135) #[] #[],.map none]) Y (Aa (pl:=#[(0,1),(1,1),(2,1)]) Wc aq (fun _=>by kernel_rfl) AD))<|Ze (EH (Cf D3 (D:=fun _=>True)) cM cO (fun _ _=>trivial) (trivial) Y Y Y Wo) ?_;rintro _ _ ⟨rfl,qj,pq,r9,d9,j3,rfl⟩;refine Zv (BN (vs:=[(0,.string ⟨#[99,111,117,110,116]⟩),(1,.func (.func 135) #[] #[]),(2,.map none)]) (cs:=#[.string ⟨#[99,111,117,110,116]⟩,.func (.func 135) #[] #[],.map none]) Y (Aa (pl:=#[(0,1),(1,1),(2,1)]) Wc aq (fun _=>by kernel_rfl) AD))<|Ze (EH (Cf D3 (D:=fun _=>True)) cM d9 (fun _ _=>trivial) (trivial) Y Y Y Wo) ?_;rintro _ _ ⟨rfl,ql,pz,sj,ek,j5,rfl⟩;refine Zm Y<|Zv (BN (vs:=[(0,.string ⟨#[115,117,109]⟩),(1,.func (.func 136) #[] #[]),(2,.map (some g))]) (cs:=#[.string ⟨#[115,117,109]⟩,.func (.func 136) #[] #[],.map (some g)]) Y (Aa (pl:=#[(0,1),(1,1),(2,1)]) Wc aq (fun _=>by kernel_rfl) AD))<|Ze (EH (Cf D3 (D:=fun _=>True)) cM ek (fun _ _=>trivial) (trivial) Y Y Y Wo) ?_;rintro _ _ ⟨rfl,qo,q9,sw,gm,kv,rfl⟩
 refine Zm Y<|Zv (BN (vs:=[(0,.string ⟨#[109,105,110]⟩),(1,.func (.func 136) #[] #[]),(2,.map (some g))]) (cs:=#[.string ⟨#[109,105,110]⟩,.func (.func 136) #[] #[],.map (some g)]) Y (Aa (pl:=#[(0,1),(1,1),(2,1)]) Wc aq (fun _=>by kernel_rfl) AD))<|Ze (EH (Cf D3 (D:=fun _=>True)) cM gm (fun _ _=>trivial) (trivial) Y Y Y Wo) ?_;rintro _ _ ⟨rfl,qw,qa,sJ,gq,l5,rfl⟩;refine Zm Y<|Zv (BN (vs:=[(0,.string ⟨#[109,97,120]⟩),(1,.func (.func 136) #[] #[]),(2,.map (some g))]) (cs:=#[.string ⟨#[109,97,120]⟩,.func (.func 136) #[] #[],.map (some g)]) Y (Aa (pl:=#[(0,1),(1,1),(2,1)]) Wc aq (fun _=>by kernel_rfl) AD))<|Ze (EH (Cf D3 (D:=fun _=>True)) cM gq (fun _ _=>trivial) (trivial) Y Y Y Wo) ?_;rintro _ _ ⟨rfl,qx,qb,sM,gy,l8,rfl⟩;refine Ze (DV)<|AF fun m=>Ze (EH (Cf D3 (D:=fun _=>True)) eo (EU _) (fun _ _=>trivial) (trivial) Y Y Y Wo) ?_;rintro _ _ ⟨rfl,p8,o9,p9,O,X,rfl⟩;refine Ze (EH (Cf D3 (D:=fun _=>True)) eo O (fun _ _=>trivial) (trivial) Y Y Y Wo) ?_;rintro _ _ ⟨rfl,J,G,ax,U,Z,rfl⟩;refine Zm Y<|Zv (BN (vs:=[(0,.string ⟨#[106,111,105,110]⟩),(1,.func (.func 137) #[] #[]),(2,.map (some m))]) (cs:=#[.string ⟨#[106,111,105,110]⟩,.func (.func 137) #[] #[],.map (some m)]) Y (Aa (pl:=#[(0,1),(1,1),(2,1)]) Wc aq (fun _=>by kernel_rfl) AD))<|Ze (EH (Cf D3 (D:=fun _=>True)) cM gy (fun _ _=>trivial) (trivial) Y Y Y Wo) ?_;rintro _ _ ⟨rfl,cu,bn,o8,gQ,l9,rfl⟩;refine Zm Y<|B2 Y<|Zn [0] ?_;refine Zx<|AL<|AO V results64 Y (by
  refine ⟨mb,cu,bn,o8,g,I,B,af,m,J,G,ax,V,gQ,fun p=>?_,K,U,⟨fun p=>?_,fun p=>?_⟩,V⟩
  · rw [l9,l8,l5,kv,j5,j3,ic]
    simp only [Ug,DS,PA,PF,false_and];constructor;· rintro (rfl|⟨rfl|⟨rfl|⟨rfl|⟨rfl|⟨rfl|⟨rfl,-⟩,-⟩,-⟩,-⟩,-⟩,-⟩)<;>simp
    · rintro (h|h|h|h|h|h|h)<;>subst h<;>simp
  · rw [W];simp
  · rw [Z,X];simp only [PA,false_and,PF]
    constructor
    · rintro (rfl|⟨rfl,-⟩)
      · exact .inl rfl
      · exact .inr rfl
    · rintro (rfl|rfl)
      · exact .inl rfl
      · exact .inr ⟨rfl,by simp⟩)
theorem A96{k:Int}(g:1<=k/\k<=7):∀(args:AN) (w:A5),(callFunc (YW k) args).run prog w= .ok (.enter (YW k) args) w:=by
 unfold YW;split;· exact call134
 · split
   · exact call135
   · split
     · exact call137
     · exact call136
theorem A95(k:Int)(bq:Nat):BS prog (YW k) #[I5 bq] [] (fun r H'=>∃s,Row 168 r ((KL k).map fun o=> .pointer (some ⟨bq,o,none⟩)) s/\H'=[s]):=by
 unfold YW KL;split;· exact nz bq
 · split
   · exact Ig bq
   · split
     · exact jS bq
     · exact tF bq
theorem sI(b:Nat)(v:A2)(l:List UInt8)(G:List A8)(m:Row 5 v (l.map u8v) G)(h0:0<l.length)(I:l.length<=1000000):BS prog 69 #[I5 b] [[(b,.cells #[I5 b,v] 159 (0,0))],G] (fun r H'=>r= .string (str l)/\H'=[[(b,.cells #[I5 b,v] 159 (0,0))]]):=by
 rcases m with⟨_,B,_⟩|⟨g,cap,cur,z,rfl,rfl,hle,hcm,hcs,htk,hfr⟩
 · simp at B;subst B;simp at h0
 · rw [Bk]at hle htk⊢
   exact Oq b g cap _ l cur z h0 A0 A0 htk
theorem Sg(b:Nat)(v:A2)(l:List UInt8)(c:UInt8)(G:List A8)(g:Row 5 v (l.map u8v) G)(hb:l.length<=1099511627776):BS prog 67 #[I5 b,.int .u8 (c.toNat:Int)] [[(b,.cells #[I5 b,v] 159 (0,0))],G] (fun r H'=>∃I B K,Row 5 I ((l++[c]).map u8v) B/\r=K/\H'=[[(b,.cells #[I5 b,I] 159 (0,0))],B]):=by
 have J:=mL;obtain ⟨gv,X,rfl⟩:=g.form;refine Se func67 ntmps67 [0,1] ?_;intro u R;refine A3<|AH Y<|AK Y<|Zc [_] Y call138 Y V (N7 b _) ?_;rintro _ _ ⟨_,⟨rfl,rfl⟩,rfl⟩;refine A4<|AK Y<|Zm Y<|Zp Y V<|Zh 1 S2 V rfl RK Y<|Zl S5 Y<|Zm Y<|Ze (Ah (vs:=[_]) (cs:=[_]) Hi Ks RE Y V rfl V rfl V)<|AF fun U=>Ze (F8 (by_:=1) (news:=[_]) Hi (V:Tryz.prog.info? 5=some Tryz.t5) V rfl V rfl Y g Y Wo Wh B1 V HO B0 (by(rw [Bk];omega)) (by(rw [Bk];omega))) ?_;rintro _ _ ⟨O,m,rfl⟩;obtain ⟨Z,W,rfl⟩:=m.form;refine Zp Y V<|Zh 1 S2 V rfl RK Y<|Xe (Zs RK Y Y V)<|Z0<|Zn [] ?_;refine C6<|An Y<|AO rfl results67 Y (by exact ⟨_,O,_,(by rw [CN];exact m),rfl,rfl⟩)
theorem Tk(b:Nat)(v:A2)(l x:List UInt8)(I:List A8)(g:Row 5 v (l.map u8v) I)(h0:0<x.length)(Z:l.length+x.length<=1000000):BS prog 66 #[.string (str x),I5 b] [[(b,.cells #[I5 b,v] 159 (0,0))],I] (fun r H'=>∃J m,Row 5 J ((aW l x).map u8v) m/\H'=[[(b,.cells #[I5 b,J] 159 (0,0))],m]):=by
 refine Se func66 ntmps66 [0,1] ?_;intro u R;refine A3<|Zc [_,_] Y call67 Y V (Sg b v l 32 I g A0) ?_;rintro _ _ ⟨_,⟨W,s2,K,B,rfl,rfl⟩,rfl⟩;refine A4<|Zg<|Zm Y<|Zc [_,_] Y call65 Y V (QL b W (l++[32]) x s2 B h0 Kd) ?_;rintro _ _ ⟨_,⟨X,U,O,G,rfl,rfl⟩,rfl⟩;refine Z0<|DC rfl results66 (by exact ⟨X,U,by unfold aW;rw [show l++32::x=l++[32]++x by simp];exact G,rfl⟩)
theorem OM(q:QM)(hq:BH q)(Tp:AM)(zp:Nat×Nat):Au prog 21 #[.agg q.BM5] [[(3,.cells (Lib.pow10Tab.map fun z=>Value.int .u64 z).toArray Tp zp)]] (.tuple #[.string (str (DI q)),I4 0]):=by
 have l5:=mL;have hk:1<=q.kd/\q.kd<=7:=by obtain ⟨_,_,_,h⟩:=hq;omega
 have B:=AE9 hq;have j5:=wW q.kd
 have cO:=wU q.kd;have gQ:=ZE q.kd
 refine Se func21 ntmps21 [0] ?_;intro u R;refine A3<|Ze (Bx #[_,_,_,_,_,_,_])<|AF fun bq=>Za Y<|CT Y<|A3<|Zo Wh (A9 (cs:=q.BM5) Fm D4 Y Wn (Az V)) ?_;refine Xr [_] Y call63 Y V (Js q) ?_;rw [DE hq];refine Zv (Bo Y)<|A4<|AY Y (fun hb=>by cases hb)<|fun hb=>B3<|Zb [1] ?_;refine CP (e0:=[]) (H0:=[]) (fun e H=>∃(bf G I:Nat) (e1 O:Array MapEntry) (J K:Nat) (l1 l7:List (Int×A2)),(Co (fun n:Int=>Value.int .i64 n) e1 J l1/\Co (fun n:Int=>Value.int .i64 n) O K l7/\kY l1 l7)/\e=[(4,I5 bf)]/\H=[[(bf,.cells #[.string (str (P9 q.kd)),.func (.func (YW q.kd)) #[] #[],O6 q.kd G I] 153 (0,0))],[(G,.map e1 J)],[(I,.map O K)]]) Wp ?hx_1 ?hy_1
 case hx_1=>
  refine Ay (n:=6) (0::0::2::7::0::31::[]) 49 AD AD V<|A1 1 V (AB (off:=0) DB V rfl A6 Y)<|Bm 2 V AE Y ?_;refine Zz (l:=[0,4])<|BW [true] [(2,(_,_))] V rfl (Zw [] Y call64 Y V (Uf)) ?hk_2 Bv ?hl_2
  case' hk_2=>
   rintro _ _ ⟨_,⟨mf,es,ck,lm,G,e1,J,l1,I,O,K,l7,rfl,Z,hp,h1,h7,hG,rfl⟩,rfl⟩;refine ⟨Zk (Ab),?_⟩;have U:=dK hp Z.keys hk
   refine G3 3 rfl Wh (Du (Cf D3 (D:=fun _=>True)) cM Wc Z (fun _ _=>trivial) (trivial) (by rw [U];first|done|rfl) Y Y) ?_;refine Yz 4 0 31 [3,2] [true,true] [(3,(_,_)),(2,(_,_))] V Y V rfl V rfl (FM Wc (cs:=#[.string ⟨#[]⟩,.nilFunc,.map none]) AD) ?_;rintro _ _ ⟨bf,rfl,rfl⟩;refine ⟨Zk (Zk (Ab)),?_⟩
  case' hl_2=>
   refine BW [true] [(2,(_,_))] V rfl (FM Wc (cs:=#[.string ⟨#[]⟩,.nilFunc,.map none]) AD) ?hk_6 (fun _ _ h=>h.elim) ?hl_6
   case' hk_6=>
    rintro _ _ ⟨bf,rfl,rfl⟩;refine C3<|Zz (l:=[0])<|BW [true] [(2,(_,_))] V rfl (Zw [] Y call64 Y V (Uf)) ?hk_7 Bv ?hl_7
    case' hk_7=>
     rintro _ _ ⟨_,⟨mf,es,ck,lm,G,e1,J,l1,I,O,K,l7,rfl,Z,hp,h1,h7,hG,rfl⟩,rfl⟩;refine ⟨Zk (Ab),?_⟩;have U:=dK hp Z.keys hk
     refine G3 3 rfl Wh (Du (Cf D3 (D:=fun _=>True)) cM Wc Z (fun _ _=>trivial) (trivial) (by rw [U];first|done|rfl) Y Y) ?_
    case' hl_7=>
     exact Aj
   case' hl_6=>
    exact Aj
  all_goals
   refine Yw 5 63 rfl (BJ sizeOf153 Y Y (by intro u hu;rcases (by simpa using hu:u=_\/u=_\/u=_)with rfl|rfl|rfl<;>first|rfl|exact qR _ _ _) Wu (by exact (rfl:_=(#[.string (str (P9 q.kd)),.func (.func (YW q.kd)) #[] #[],O6 q.kd G I]:AN))) G4 B0 (by exact BB _))<|F0<|Aq<|Hh (by exact ⟨bf,G,I,e1,O,J,K,l1,l7,⟨h1,h7,hG⟩,V,V⟩)
 rintro _ _ ⟨bf,G,I,e1,O,J,K,l1,l7,⟨h1,h7,hG⟩,rfl,rfl⟩;refine A3<|Ze (Al zeroValue159 #[_,_])<|AF fun b=>A4<|Zq<|Bc<|Zg<|Zh 0 aq V rfl FG Y<|Zl H3 Y ?_;refine Zc [_,_] Y call65 Y V (Oz b (.slice none 0 0) [] (P9 q.kd) [] (Gg _) gQ.1 Kd) ?_;rintro _ _ ⟨_,⟨v1,ic,l9,gm,rfl,rfl⟩,rfl⟩;refine A4<|A3<|Zv (Be (vs:=[]) (us:=[_]) Y Y)<|CT Y<|A3<|Zh 1 aq V rfl sizeOf151 Y<|Zl isAgg151 Y ?_;refine Zc [_] Y (A96 hk) Y V (A95 q.kd bq) ?_;rintro _ _ ⟨_,⟨sf,gy,rfl⟩,rfl⟩;rcases gy with⟨_,h0,_⟩|⟨gf,cf,cur,zf,rfl,rfl,hle,hcm,hcs,htk,hfr⟩
 · exfalso;have h0:=congrArg List.length h0;rw [Bk]at h0;simp at h0;simp [h0]at cO
 simp only [Bk]at hle htk;simp only [Bk];refine Zv (AR ao Y)<|Zm Y<|A4<|AQ<|Zb [26,4,5,6,24,25] ?_;refine Aw (e0:=[(26,_)]) (fun m e H=>∃(i:Nat) (vb:A2) (sb:List A8),m=(KL q.kd).length -i/\(i<=(KL q.kd).length/\Row 5 vb ((upP q i).map u8v) sb)/\e=[(26,I4 (i:Int))]/\H=[[(b,.cells #[I5 b,vb] 159 (0,0))],sb]) (by exact ⟨0,v1,ic,V,⟨CM _,gm⟩,V,V⟩) Wp ?_;rintro _ _ _ ⟨i,vb,sb,rfl,⟨hi,W⟩,rfl,rfl⟩;refine A3<|Zv (Ap Y Y)<|A4<|Zq<|Ak Y (fun d9=>?_) (fun d9=>?_);·
  have l8:=SH B i;obtain ⟨o,ho⟩:∃o,(KL q.kd)[i]?=some o:=⟨_,BT A0⟩;have ek:(KL q.kd).getD i 0=o:=by rw [OR,ho];rfl
  have ax:=xx q.kd o (Ek ho);have af:=xy q.kd o (Ek ho)
  have cu:cur[i]?=some (.pointer (some ⟨bq,o,none⟩)):=by
   have h:((KL q.kd).map fun o=>(.pointer (some ⟨bq,o,none⟩):A2))[i]?=some (.pointer (some ⟨bq,o,none⟩)):=by rw [E6,ho];rfl
   rw [<-htk,HR,Ax A0]at h;simpa using h
  have kv:=Ud q.kd i;have X:=bZ _ (B o)
  refine B3<|Zq<|AQ<|AK Y<|BX (Bd ao Z2 Y Y Q2)<|Zl isAgg168 Y (hv:=by exact cu) ?_;refine Za Y<|CT Y<|A3<|Zh 2 aq V rfl sizeOf108 Y<|Zl isAgg108 Y ?_;refine Zm Y<|Bu (cs:=[(G,.map e1 J),(I,.map O K)]) B7 (xY hk h1 h7 hG (i:=i) Y Y) V rfl ?_;refine Zm Y<|Zd Y V<|Zd Y V<|Za Y<|B2 Y<|Zn [4,5,6,8,9,10,24,25,26] ?_;refine Zx<|AK Y<|A4<|Ak Y (fun g=>?_) (fun g=>?_);focus
   refine Zg<|Zm Y<|Zm Y<|Zc [_] Y (call66) Y V (Tk b vb (upP q i) (Ja q.kd i) sb W (List.length_pos_iff.2 g) A0) ?_;rintro _ _ ⟨_,⟨v4,o8,gq,rfl⟩,rfl⟩;refine A4<|Zg<|Zm Y<|Zm Y<|Zp Y V<|Zl AE Y (hv:=by exact tu q af ax) ?_;refine Xr [_] Y call68 Y V (XB (QQ q o) (B o) Tp zp) ?_;refine Zc [_] Y (call66) Y V (Tk b _ (VV q (upP q i) i) (Lib.itoa (QQ q o)) _ (by unfold VV;(rw [As g];exact gq)) X.1 (by have:=bE q (upP q i) i;omega)) ?_
  rotate_left
  focus
   refine B3<|Zg<|Zm Y<|Zm Y<|Zp Y V<|Zl AE Y (hv:=by exact tu q af ax) ?_;refine Xr [_] Y call68 Y V (XB (QQ q o) (B o) Tp zp) ?_;refine Zc [_] Y (call66) Y V (Tk b _ (VV q (upP q i) i) (Lib.itoa (QQ q o)) _ (by unfold VV;(rw [Ax (HP.1 g)];exact W)) X.1 (by have:=bE q (upP q i) i;omega)) ?_
  all_goals
   rintro _ _ ⟨_,⟨v5,j3,bn,rfl⟩,rfl⟩;rw [show aW (VV q (upP q i) i) (Lib.itoa (QQ q o))=upP q (i+1) from by rw [A04,ek]]at bn;refine Z0<|AA<|Zx<|Dg Y Y Y<|HJ (by exact ⟨i+1,v5,j3,V,⟨by omega,bn⟩,V,V⟩)
 obtain rfl:i=(KL q.kd).length:=by omega
 refine BA<|Zt<|Zt<|AX<|C6<|Zc [_] Y call69 Y V (sI b vb _ sb W (SH B _).1 (by have:=SH B (KL q.kd).length;omega)) ?_;rintro _ _ ⟨_,⟨rfl,rfl⟩,rfl⟩;refine Za Y<|An Y<|DR V results21 Y Y (by exact ⟨V,V⟩)
end Go.Proofs.YtlkdhannldcfbabGreatDoor
namespace Go.Proofs.YtlkdhannldcfbabGreatDoor
open Go.Proofs.Tryz
open Go Go.RowKit Gw
set_option maxRecDepth 100000
attribute [local irreducible] Gw.At Gw.Nx Gw.Ops
open Go.Sort
theorem AA8(xs:List CA):xs.map Value.string=(xs.map fun x=>x.data.toList).map encStr:=by
 rw [Mn];rfl
theorem AB4(ls:List (List UInt8)):ls.map encStr=(ls.map fun l=>(⟨l.toArray⟩:CA)).map Value.string:=by
 rw [Mn];rfl
theorem TF{v:A2}{zs:List CA}{s:List A8}(hr:Row 9 v (zs.map Value.string) s)(hl:zs.length<=1000000):BS prog 50 #[v] [s] (fun r H'=>∃(zs':List CA) (s':List A8),r= .tuple #[]/\zs'.Perm zs/\(zs'.Pairwise fun x y=>x.data.toList<=y.data.toList)/\Row 9 v (zs'.map Value.string) s'/\H'=[s']):=fun u R w hs=>by
 obtain ⟨ls,m⟩:∃ls,ls=zs.map fun x=>x.data.toList:=⟨_,rfl⟩;have I:ls.length=zs.length:=by rw [m,Bk]
 obtain ⟨G,B⟩:∃G,G=ls.mergeSort fun x y=>decide (x<=y):=⟨_,rfl⟩;have J:G.Perm ls:=by rw [B];exact sX _ _
 have W:G.Pairwise fun x y=>x<=y:=by
  have h:=List.pairwise_mergeSort (le:=fun x y:List UInt8=>decide (x<=y)) (fun a b c h1 h2=>by simp only [HA]at*;exact List.le_trans h1 h2) (fun a b=>by simp only [UP,HA];exact List.le_total a b) ls;rw [B];simpa only [HA]using h
 have O:(G.map fun l=>(⟨l.toArray⟩:CA)).Perm zs:=by
  have h:=J.map fun l=>(⟨l.toArray⟩:CA);rw [m,Mn]at h;have e:zs.map ((fun l:List UInt8=>(⟨l.toArray⟩:CA))∘fun x=>x.data.toList)=zs:=by
   conv=>rhs;rw [<-List.map_id zs]
   rfl
  rwa [e]at h
 have U:(G.map fun l=>(⟨l.toArray⟩:CA)).Pairwise fun x y=>x.data.toList<=y.data.toList:=by rw [X1];exact W
 rcases hr with⟨rfl,h0,rfl⟩|⟨g,cap,cur,z,rfl,rfl,hle,hcm,hcs,htk,hfr⟩
 · have hx:zs=[]:=by simpa using h0
   subst hx;refine (Tryz.slices_Sort_string_none none 0 w).mono ?_;rintro e w' ⟨rfl,rfl⟩;exact .inl ⟨_,[[]],V,⟨[],[],V,.refl _,.nil,by simp [Gg],V⟩,hs⟩
 · rw [AA8,<-m]at htk
   rw [Bk]at hle⊢;rw [Bk]at htk;have K:Sat u ([(g,.cells cur 9 z)]::R) w:=by simpa using hs
   have Z:=K.get (g,.cells cur 9 z) B7;have hH:=Ub (zs:=ls) Z A0 hfr htk
   have hc:=Tryz.slices_Sort_string g 0 cap ls w hH (Iv.1 Z).1 A0;rw [I]at hc;refine hc.mono ?_;rintro e w' ⟨rfl,n,os,rfl⟩;rw [<-B];have X:=J.length_eq
   refine .inl ⟨_,[[(g,.cells (putCells encStr 0 G.toArray cur) 9 z)]],V,⟨_,_,V,O,U,?_,V⟩,by simpa using K.sorted (n:=n) _ os⟩;refine .inr ⟨g,cap,_,z,by rw [Bk,Bk,X,I],rfl,by rw [Bk,Bk];omega,hcm,by rw [NN];exact hcs,?_,by rw [NN];exact hfr⟩;rw [<-AB4,Bk];exact aT _ _ A0
theorem jN(mi:Nat):BS prog 54 #[.map (some mi)] [] (fun r H'=>∃b,r= .func (.func 122) #[] #[I5 b]/\H'=[[(b,.cells #[.map (some mi)] 107 (0,0))]]):=by
 refine Se func54 ntmps54 [0] ?_;intro u R;refine A3<|Ze (Bx #[_])<|AF fun b=>AH Y<|A3<|Zv (Be (vs:=[]) (us:=[_]) Y Y)<|An Y<|AO V results54 Y (by exact ⟨b,V,V⟩)
variable{es:Array MapEntry}{ck:Nat}{lm:List (CA×A2)}
theorem jO(U:Co (fun n:CA=>Value.string n) es ck lm)(b mi:Nat):Kw prog 122 #[I5 b] [[(b,.cells #[.map (some mi)] 107 (0,0))]] (fun _ s=>(mi,Obj.map es ck)∈s) (fun x:CA=>#[.string x]) (Nh lm) (fun ys=>ys.Perm (lm.map (·.1))):=by
 intro l J W hy s B;refine Se func122 ntmps122 [0,1] ?_;intro u R;refine A3<|Zl Sh Y<|Ze (M3 Ss Y (FN Wo (W _ s B)))<|AF fun ib=>A4<|AQ<|Zb [0,5] ?_;refine Aw (e0:=[]) (fun m e H=>∃(js:List Nat) (seen:Array Nat) (s:List A8),m=lm.length -js.length/\(J9 es js seen/\J ((DU lm js).map (·.1)) s)/\e=[]/\H=[[(ib,.mapIter (some mi) ck seen ck)],s]) (by exact ⟨[],#[],s,V,⟨Kj _,B⟩,V,V⟩) Wp ?_;rintro _ _ _ ⟨js,seen,s,rfl,⟨I,B⟩,rfl,rfl⟩;have X:=FE es.size js I.nodup I.lt
 rw [U.size]at X;refine A3<|Ze (OD U I Y Wo (FN Wo (W _ s B))) ?_;rintro _ _ af;rcases af with⟨G,rfl,rfl⟩|⟨jn,pn,seen2,hpn,hjn,hi2,rfl,rfl⟩
 ·
  refine Zd Y V<|A4<|Zq<|AY Y (fun g=>by cases g)<|fun g=>BA<|Zt<|Zt<|AX<|DC V results122 (by exact ⟨_,s,G.map _,V,B⟩)
 refine Zd Y V<|A4<|Zq<|AY Y (fun g=>?_) (fun g=>?_);·
  have O:=FE es.size (js++[jn]) hi2.nodup hi2.lt;rw [U.size,C0,GC]at O;have cu:(js++[jn]).length=js.length+1:=by rw [C0];rfl
  have ax:Nh lm ((DU lm js).map (·.1)++[pn.1]):=by
   have h:=U5 (l:=lm) hi2.nodup (fun j hj=>by rw [<-U.size];exact hi2.lt j hj);rw [GK lm js hpn,CN]at h;exact h
  have bn:=hy ((DU lm js).map (·.1)) pn.1 s ax B;refine B3<|AQ<|Zq<|Zg ?_;have Z:=W _ s B
  refine Bu (cs:=[(ib,.mapIter (some mi) ck seen2 ck),(mi,.map es ck)]) (by simp [Z]) (JV U hi2 hpn Y) V rfl<|Zd Y V<|AH Y<|AK Y<|Zm Y<|Ze (GH (vs:=[_]) Y Y (bn) Wp) ?_;rintro _ _ ⟨_,⟨s',rfl,rfl,K⟩,rfl⟩;rw [show(DU lm js).map (·.1)++[pn.1]=(DU lm (js++[jn])).map (·.1) by rw [GK lm js hpn,CN];rfl]at K;refine Zv (Bo Y)<|A4<|AY Y (fun g=>by cases g)<|fun g=>AC<|AA<|HJ (by exact ⟨js++[jn],seen2,s',V,⟨hi2,K⟩,V,V⟩)
 cases g
variable{M:List A8}
theorem SC(Z:Co (fun n:CA=>Value.string n) es ck lm)(hn:lm.length<=1000000)(b mi:Nat)(O:(mi,Obj.map es ck)∈M):BS prog 205 #[.slice none 0 0,.func (.func 122) #[] #[I5 b]] [[(b,.cells #[.map (some mi)] 107 (0,0))],M] (fun r H'=>∃(zs:List CA) (s':List A8),zs.Perm (lm.map (·.1))/\Row 9 r (zs.map Value.string) s'/\H'=[M,s']):=by
 have af:=mL;refine DF func205 V ntmps205 V ?_;intro u R;refine Zb [0,1] ?_;refine A3<|Ze (Bx #[_])<|AF fun bs=>AH Y<|B8 Y<|A4<|AQ<|Zb [2,6] ?_;refine Bc<|JI (H0:=_) (R:=_) (I:=(fun(pre:List CA) H=>∃m s2,H=[[(bs,.cells #[m] 50 (0,0))],s2,M]/\Row 9 m (pre.map Value.string) s2)) (E:=fun x e Hn=>e=[(5,.string x),(7,.string x)]/\Hn=[]) rfl Y call122 (jO Z b mi) (fun pre H1 c d h=>by obtain ⟨m,s2,rfl,_⟩:=h;simp [O]) Y rfl Wp (⟨_,[],rfl,Gg _⟩) ?ha_2 ?hbd_2 ?hk_2
 case ha_2=>
  intro _ x _ _;refine Zg<|B2 Y<|LP (e:=[(5,_),(7,_)]) (Hn:=[]) ?_;exact ⟨V,V⟩
 case hbd_2=>
  intro l pre x u e9 W H1 R1 r9 U X G;obtain ⟨rfl,rfl⟩:=G;obtain ⟨m,s2,rfl,B⟩:=X;have ax:=U.len
  obtain ⟨gv,cv,rfl⟩:=B.form;refine AQ<|Zg<|Zl ID Y<|Zm Y<|Ze (Ah (vs:=[_]) (cs:=[_]) DO FG I2 Y V rfl V rfl V)<|AF fun b2=>Ze (F8 (by_:=16) (news:=[_]) DO (V:Tryz.prog.info? 9=some Tryz.t9) V rfl V rfl Y B Y Wo Wh B1 V HO B0 (by(simp only [Bk];omega)) (by(simp only [Bk];omega))) ?_;rintro _ _ ⟨sq,g,rfl⟩;obtain ⟨gq,cq,rfl⟩:=g.form;refine Xe (Zs Hc Y Y rfl)<|Z0<|AA<|FZ rfl (by exact ⟨_,_,rfl,by rw [CN];exact g⟩)
 intro D1 ys H2 K J;obtain ⟨m,s2,rfl,B⟩:=J;refine Zn [2] ?_;refine AA<|C6<|Zl ID Y<|An Y<|G7 V (TZ results205 Y) Wo (by exact ⟨ys,s2,K,B,V⟩)
theorem Vb(m:Co (fun n:CA=>Value.string n) es ck lm)(hn:lm.length<=1000000)(b mi:Nat)(g:(mi,Obj.map es ck)∈M):BS prog 121 #[.func (.func 122) #[] #[I5 b]] [[(b,.cells #[.map (some mi)] 107 (0,0))],M] (fun r H'=>∃(zs:List CA) (s':List A8),zs.Perm (lm.map (·.1))/\Row 9 r (zs.map Value.string) s'/\H'=[M,s']):=by
 refine Se func121 ntmps121 [0] ?_;intro u R;refine A3<|AH Y<|AK Y<|Zc [_,_] Y call205 Y V (SC m hn b mi g) ?_;rintro _ _ ⟨_,⟨zs,s2,B,G,rfl⟩,rfl⟩;refine An Y<|AO V results121 Y (by exact ⟨zs,s2,B,G,V⟩)
theorem Xv(O:Co (fun n:CA=>Value.string n) es ck lm)(hn:lm.length<=1000000)(b mi:Nat)(g:(mi,Obj.map es ck)∈M):BS prog 53 #[.func (.func 122) #[] #[I5 b]] [[(b,.cells #[.map (some mi)] 107 (0,0))],M] (fun r H'=>∃(zs:List CA) (s':List A8),zs.Perm (lm.map (·.1))/\(zs.Pairwise fun x y=>x.data.toList<=y.data.toList)/\Row 9 r (zs.map Value.string) s'/\H'=[M,s']):=by
 refine Se func53 ntmps53 [0] ?_;intro u R;refine A3<|AH Y<|AK Y<|Zc [_] Y call121 Y V (Vb O hn b mi g) ?_;rintro _ _ ⟨_,⟨zs,s2,K,U,rfl⟩,rfl⟩;have I:=K.length_eq
 rw [Bk]at I;refine AH Y<|AK Y<|Zc [_] Y call50 Y V (TF U A0) ?_;rintro _ _ ⟨_,⟨J,W,rfl,m,G,B,rfl⟩,rfl⟩;refine A4<|AK Y<|An Y<|AO V results53 Y (by exact ⟨J,W,m.trans K,G,B,V⟩)
end Go.Proofs.YtlkdhannldcfbabGreatDoor
namespace Go.Proofs.YtlkdhannldcfbabGreatDoor
open Go.Proofs.Tryz
open Go Go.RowKit Gw
set_option maxRecDepth 100000
attribute [local irreducible] Gw.At Gw.Nx Gw.Ops
structure Br where
 b:Nat
 key:CA
 te:Int
 sz:Int
structure Bi where
 r:Nat
 E:List Br
 nx:Nat->A2
 bf:Nat->A2
 cap:Int
 sh:A2
 us:A2
 mv:A2
 fr:Int
def DZ(f:Nat->A2)(a:Nat)(v:A2):Nat->A2:=fun x=>if x=a then v else f x
theorem IR(f:Nat->A2)(a:Nat)(v:A2):DZ f a v a=v:=Ax rfl
variable{x:Nat}
theorem En(f:Nat->A2){a:Nat}(v:A2)(h:x≠a):DZ f a v x=f x:=As h
def Br.ch(nx bf:Nat->A2)(e:Br):A8:=(e.b,.cells #[.string e.key,I4 e.te,I4 e.sz,bf e.b,nx e.b] 192 (0,0))
def Bi.S(z:Bi):List A8:=(z.r,.cells #[.string ⟨#[]⟩,I4 0,I4 0,z.bf z.r,z.nx z.r,I4 z.cap,z.sh,z.us,z.mv,I4 z.fr] 196 (0,0))::z.E.map (Br.ch z.nx z.bf)
def Bi.bl(z:Bi):List Nat:=z.r::z.E.map (·.b)
theorem Bi.keys(z:Bi):z.S.map (·.1)=z.bl:=by
 unfold Bi.S Bi.bl;rw [Fc,Mn];rfl
theorem Bi.root(z:Bi):(z.r,Obj.cells #[.string ⟨#[]⟩,I4 0,I4 0,z.bf z.r,z.nx z.r,I4 z.cap,z.sh,z.us,z.mv,I4 z.fr] 196 (0,0))∈z.S:=Fo ..
variable{e:Br}
theorem Bi.node(z:Bi)(g:e∈z.E):(e.b,Obj.cells #[.string e.key,I4 e.te,I4 e.sz,z.bf e.b,z.nx e.b] 192 (0,0))∈z.S:=GB _ (Fk (f:=Br.ch z.nx z.bf) g)
theorem Ha{α β:Type}{f:α->β}:∀{l:List α},(l.map f).Nodup->∀{x y:α},x∈l->y∈l->f x=f y->x=y
 |a::l,hn,x,y,hx,hy,e=>by
  rw [Fc,LI]at hn;rcases DS.1 hx with h1|h1
  · rcases DS.1 hy with h2|h2
    · rw [h1,h2]
    · exact absurd (by rw [<-h1,e];exact Fk h2) hn.1
  · rcases DS.1 hy with h2|h2
    · exact absurd (by rw [<-h2,<-e];exact Fk h1) hn.1
    · exact Ha hn.2 h1 h2 e
theorem Bi.upd(z:Bi)(J:z.bl.Nodup){a:Nat}(B:a∈z.bl):∃c T,(a,Obj.cells c T (0,0))∈z.S/\(c.size=5\/c.size=10)/\∀v,JQ a (.cells (c.setIfInBounds 4 v) T (0,0)) z.S=({z with nx:=DZ z.nx a v}:Bi).S/\JQ a (.cells (c.setIfInBounds 3 v) T (0,0)) z.S=({z with bf:=DZ z.bf a v}:Bi).S:=by
 have g:(z.r::z.E.map (·.b)).Nodup:=J;rw [LI]at g;rcases DS.1 B with rfl|B
 · refine ⟨_,_,z.root,.inr rfl,fun v=>?_⟩
   have hn:∀e∈z.E,e.b≠z.r:=fun e m h=>g.1 (h▸Fk m);constructor<;>
   · unfold JQ Bi.S
     rw [Fc,Ax rfl];congr 1;· simp only [IR];rfl
     · rw [Mn]
       refine cD fun e m=>?_;show(if e.b=z.r then _ else _)=_
       rw [As (hn e m)];unfold Br.ch;simp only [En _ _ (hn e m)]
 · obtain ⟨e,m,rfl⟩:=CI.1 B
   refine ⟨_,_,z.node m,.inl V,fun v=>?_⟩;have I:z.r≠e.b:=fun h=>g.1 (h▸Fk m)
   constructor<;>
   · unfold JQ Bi.S
     rw [Fc,As I];congr 1;· simp only [En _ _ I]
     · rw [Mn]
       refine cD fun e' G=>?_;show(if e'.b=e.b then _ else _)=_
       split
       · rename_i h
         obtain rfl:=Ha g.2 G m h;unfold Br.ch;simp only [IR];rfl
       · rename_i h
         unfold Br.ch;simp only [En _ _ h]
theorem Bi.fr_upd(z:Bi)(B:z.bl.Nodup)(v:Int):JQ z.r (.cells ((#[.string ⟨#[]⟩,I4 0,I4 0,z.bf z.r,z.nx z.r,I4 z.cap,z.sh,z.us,z.mv,I4 z.fr]:AN).setIfInBounds 9 (I4 v)) 196 (0,0)) z.S=({z with fr:=v}:Bi).S:=by
 have g:(z.r::z.E.map (·.b)).Nodup:=B;rw [LI]at g;have hn:∀e∈z.E,e.b≠z.r:=fun e m h=>g.1 (h▸Fk m)
 unfold JQ Bi.S;rw [Fc,Ax rfl];congr 1;rw [Mn];refine cD fun e m=>?_;show(if e.b=z.r then _ else _)=_
 rw [As (hn e m)]
def FD:Nat->List Nat->Nat->List (Nat×Nat)
 |a,[],c=>[(a,c)]
 |a,b::l,c=>(a,b)::FD b l c
theorem OO:∀(a:Nat) (l:List Nat),∃A p,∀y,FD a l y=A++[(p,y)]
 |a,[]=>⟨[],a,fun _=>rfl⟩
 |a,b::l=>by
  obtain ⟨A,p,h⟩:=OO b l;exact ⟨(a,b)::A,p,fun y=>by rw [FD,h];rfl⟩
theorem iW:∀(l:List Nat) (c:Nat),∃n B,∀x,FD x l c=(x,n)::B
 |[],c=>⟨c,[],fun _=>rfl⟩
 |b::l,c=>⟨b,FD b l c,fun _=>rfl⟩
theorem NQ:∀(a:Nat) (l:List Nat) (x:Nat) (m:List Nat) (c:Nat),FD a (l++x::m) c=FD a l x++FD x m c
 |a,[],x,m,c=>rfl
 |a,b::l,x,m,c=>by
  show(a,b)::FD b (l++x::m) c=_;rw [NQ b l x m c];rfl
theorem JN:∀(a:Nat) (l:List Nat) (c:Nat),(FD a l c).map (·.1)=a::l
 |a,[],c=>rfl
 |a,b::l,c=>by rw [FD,Fc,JN b l c]
theorem KY:∀(a:Nat) (l:List Nat) (c:Nat),(FD a l c).map (·.2)=l++[c]
 |a,[],c=>rfl
 |a,b::l,c=>by rw [FD,Fc,KY b l c];rfl
def pV(b:Nat):A2:=I5 b
def Jg(nx bf:Nat->A2)(r:Nat)(l:List Nat):Prop:=∀q∈FD r l r,nx q.1=pV q.2/\bf q.2=pV q.1
variable{bf nx:Nat->A2}{r:Nat}
theorem A28(h:nx r=pV r)(h2:bf r=pV r):Jg nx bf r []:=fun q g=>by
 obtain rfl:=CH.1 g;exact ⟨h,h2⟩
theorem TY{l:List Nat}(hn:(r::l).Nodup):((FD r l r).map (·.1)).Nodup/\((FD r l r).map (·.2)).Nodup:=by
 rw [JN,KY];refine ⟨hn,?_⟩;rw [LI]at hn;rw [HX];exact ⟨hn.2,by simp,fun x hx y hy=>by rw [CH.1 hy];rintro rfl;exact hn.1 hx⟩
theorem A29{l1 l2:List Nat}(hn:(r::(l1++x::l2)).Nodup)(h:Jg nx bf r (l1++x::l2)):∃p n,p∈r::(l1++l2)/\n∈r::(l1++l2)/\bf x=pV p/\nx x=pV n/\Jg (DZ nx p (pV n)) (DZ bf n (pV p)) r (l1++l2):=by
 obtain ⟨A,p,K⟩:=OO r l1;obtain ⟨n,B,O⟩:=iW l2 r;have e1:FD r (l1++x::l2) r=A++(p,x)::(x,n)::B:=by rw [NQ,K,O];simp
 have e2:FD r (l1++l2) r=A++(p,n)::B:=by
  cases l2 with
  |nil=>
   have J:=O 0;injection J with h2 h3
   injection h2 with _ h2
   subst h2 h3;rw [E7,K]
  |cons y m=>
   have J:=O 0;injection J with h2 h3
   injection h2 with _ h2
   subst h2;rw [NQ,K,<-h3];simp
 obtain ⟨I,d2⟩:=TY hn;rw [e1,CN,Fc,Fc,HX,LI,LI]at I d2;have U:p∈r::(l1++l2):=by
  have:=JN r (l1++l2) r;rw [e2]at this;rw [<-this];simp
 have g:n∈r::(l1++l2):=by
  have:=KY r (l1++l2) r;rw [e2]at this;have G:n∈l1++l2++[r]:=by rw [<-this];simp
  rcases CD.1 G with G|G
  · exact GB _ G
  · rw [CH.1 G];exact Fo ..
 refine ⟨p,n,U,g,(h _ (by rw [e1];simp:(p,x)∈_)).2,(h _ (by rw [e1];simp:(x,n)∈_)).1,fun q g=>?_⟩;rw [e2]at g;rcases CD.1 g with g|g
 · have h0:=h q (by rw [e1];simp [g])
   rw [En _ _ fun e=>I.2.2 _ (Fk g) p (Fo ..) e,En _ _ fun e=>d2.2.2 _ (Fk g) n (GB _ (Fo ..)) e];exact h0
 · rcases DS.1 g with rfl|g
   · exact ⟨IR _ _ _,IR _ _ _⟩
   · have h0:=h q (by rw [e1];simp [g])
     rw [En _ _ fun e=>I.2.1.1 (by show p∈_;rw [<-e];exact GB _ (Fk g)),En _ _ fun e=>d2.2.1.2.1 (by show n∈_;rw [<-e];exact Fk g)];exact h0
theorem A30{l:List Nat}(hn:(r::l).Nodup)(hx:x∉r::l)(h:Jg nx bf r l):∃p,p∈r::l/\bf r=pV p/\Jg (DZ (DZ nx x (pV r)) p (pV x)) (DZ (DZ bf x (pV p)) r (pV x)) r (l++[x]):=by
 obtain ⟨A,p,O⟩:=OO r l;have e1:=O r
 have e2:FD r (l++[x]) r=A++(p,x)::[(x,r)]:=by rw [NQ,O];simp [FD]
 obtain ⟨K,d2⟩:=TY hn;rw [e1,CN,HX]at K d2;have U:p∈r::l:=by
  have:=JN r l r;rw [e1]at this;rw [<-this];simp
 have I:x≠r:=fun e=>hx (by rw [e];exact Fo ..);have J:x≠p:=fun e=>hx (by rw [e];exact U)
 refine ⟨p,U,(h _ (by rw [e1];simp:(p,r)∈_)).2,fun q g=>?_⟩;rw [e2]at g;have B:∀q∈A,q.1∈r::l:=fun q g=>by
  rw [<-JN r l r,e1];exact Fk (by simp [g])
 have G:∀q∈A,q.2≠x:=fun q g e=>by
  have m:q.2∈l++[r]:=by rw [<-KY r l r,e1];exact Fk (by simp [g])
  rw [e]at m;rcases CD.1 m with m|m
  · exact hx (GB _ m)
  · exact I (CH.1 m)
 rcases CD.1 g with g|g
 · have h0:=h q (by rw [e1];simp [g])
   rw [En _ _ fun e=>K.2.2 _ (Fk g) p (Fo ..) e,En _ _ fun e=>hx (by rw [<-e];exact B q g),En _ _ fun e=>d2.2.2 _ (Fk g) r (Fo ..) e,En _ _ (G q g)];exact h0
 · rcases DS.1 g with rfl|g
   · exact ⟨IR _ _ _,by show DZ _ _ _ x=_;rw [En _ _ I,IR]⟩
   · obtain rfl:=CH.1 g
     exact ⟨by show DZ _ _ _ x=_;rw [En _ _ J,IR],IR _ _ _⟩
theorem kP(r:Nat)(T:AM)(zz:Nat×Nat)(g m B W U G I J K O:A2):BS prog 85 #[I5 r] [[(r,.cells #[g,m,B,W,U,G,I,J,K,O] T (0,0))]] (fun v H'=>v=undef/\H'=[[(r,.cells #[g,m,B,I5 r,I5 r,G,I,J,K,O] T (0,0))]]):=by
 refine Se func85 ntmps85 [0] ?_;intro u R;refine Ay (n:=16) (0::0::0::4::12::0::32::96::29::285::797::1821::4095::8191::16383::32767::[]) 34816 AD AD V<|A1 0 V (AP Y)<|A1 1 V (AP Y)<|A1 2 V (AP Y)<|A1 3 V (Ao Y V)<|A1 4 V (AB (off:=0) j0 V rfl kA Y)<|A1 5 V (AP Y)<|A1 6 V (Ao Y V)<|A1 7 V (AB (off:=0) j0 V rfl kA Y)<|A1 8 V (Ao Y V)<|A1 9 V (AB (off:=0) j0 V rfl kA Y)<|A1 10 V (AB (off:=3) Lq V rfl LL Y)<|Zz (l:=[11])<|BW [] [] V rfl (Zs LL Y Y V) ?_ (fun _ _ h=>h.elim) Aj;rintro _ _ ⟨rfl,rfl⟩;refine C3<|A1 12 V (Ao Y V)<|A1 13 V (AB (off:=0) j0 V rfl kA Y)<|A1 14 V (AB (off:=4) Lq V rfl LL Y)<|Zz (l:=[15])<|BW [] [] V rfl (Zs LL Y Y V) ?_ (fun _ _ h=>h.elim) Aj;rintro _ _ ⟨rfl,rfl⟩;refine C3<|Aq<|DC V results85 (by exact ⟨V,V⟩)
theorem ZL(z:Bi)(G:z.bl.Nodup)(B:e∈z.E){p n:Nat}(I:p∈z.bl)(hn:n∈z.bl)(g:z.bf e.b=pV p)(m:z.nx e.b=pV n):BS prog 161 #[.pointer (some ⟨e.b,0,none⟩)] [z.S] (fun v H'=>v=undef/\H'=[({z with nx:=DZ z.nx p (pV n),bf:=DZ z.bf n (pV p)}:Bi).S]):=by
 obtain ⟨Z,W,J,s1,O⟩:=z.upd G I;obtain ⟨c2,X,K,s2,U⟩:=Bi.upd ({z with nx:=DZ z.nx p (pV n)}:Bi) G hn;refine Se func161 ntmps161 [0] ?_;intro u R;refine Ay (n:=22) (0::1::3::7::0::16::48::112::0::256::768::1792::0::4096::12288::28672::65535::131071::262143::524287::1048575::2097151::[]) 2359296 AD AD V<|A1 0 V (AP Y)<|A1 1 V (Ao Y V)<|A1 2 V (AB (off:=3) Lq V rfl LL Y)<|Cn (D':=15) 3 V rfl V (FN Wo (z.node B)) (BK isAgg190 Y (congrArg some g)) ?_;refine A1 4 V (AP Y)<|A1 5 V (Ao Y V)<|A1 6 V (AB (off:=4) Lq V rfl LL Y)<|Cn (D':=255) 7 V rfl V (FN Wo (z.node B)) (BK isAgg190 Y (congrArg some m)) ?_;refine A1 8 V (AP Y)<|A1 9 V (Ao Y V)<|A1 10 V (AB (off:=4) Lq V rfl LL Y)<|Cn (D':=4095) 11 V rfl V (FN Wo (z.node B)) (BK isAgg190 Y (congrArg some m)) ?_;refine A1 12 V (AP Y)<|A1 13 V (Ao Y V)<|A1 14 V (AB (off:=3) Lq V rfl LL Y)<|Cn (D':=65535) 15 V rfl V (FN Wo (z.node B)) (BK isAgg190 Y (congrArg some g)) ?_;refine A1 16 V (Ao Y V)<|A1 17 V (AB (off:=4) Lq V rfl LL Y)<|Zz (l:=[18])<|BW [false,false,false,false] [] V rfl (IZ LL Y Y V Wo (J) (by exact (O _).1) A0 (by exact BB _)) ?_ (fun _ _ h=>h.elim) Aj;rintro _ _ ⟨rfl,rfl⟩;refine C3<|A1 19 V (Ao Y V)<|A1 20 V (AB (off:=3) Lq V rfl LL Y)<|Zz (l:=[21])<|BW [] [] V rfl (IZ LL Y Y V Wo (K) (by exact (U _).2) A0 (by exact BB _)) ?_ (fun _ _ h=>h.elim) Aj;rintro _ _ ⟨rfl,rfl⟩;refine C3<|Aq<|DC V results161 (by exact ⟨V,V⟩)
variable{v:A2}{k:Nat}
theorem Y4{e:AM}{xs:List A2}{s:List A8}(h:Row e v xs s){y0:A2}(hy:xs[k]?=some y0):∃b cap cur z,v=I6 b xs.length cap/\s=[(b,.cells cur e z)]/\k<cur.size/\Iq z cur.size/\cur[k]?=some y0/\∀y:A2,Row e v (xs.set k y) [(b,.cells (cur.setIfInBounds k y) e z)]:=by
 have I:=(C7.1 hy).1;obtain ⟨b,cap,cur,z,hv,J,K,h2,O⟩:=uz h I;refine ⟨b,cap,cur,z,hv,J,K,h2,?_,O⟩;obtain ⟨W,B,G,X,U,g,_,_,_,m,_⟩:=h.some A0;rw [J]at g;injection g with g _
 injection g with _ g
 injection g with g _
 subst g;rw [<-Hx,<-n4 I,m];exact hy
def Fg(L:List Br)(k:Int):Int:=(L.map fun e=>if e.te=k then e.sz else 0).sum
def Lu(L:List Br):Int:=(L.map (·.sz)).sum
structure Dk(z:Bi)(ns:Nat)(L:List Br)(mb:Nat)(es:Array MapEntry)(ck:Nat)(lm:List (CA×A2))(su:List A8):Prop where
 sub:∀e∈L,e∈z.E
 ring:Jg z.nx z.bf z.r (L.map (·.b))
 mv:z.mv= .map (some mb)
 map:Co (fun k:CA=>Value.string k) es ck lm
 mem:∀p,p∈lm↔∃e∈L,p=(e.key,pV e.b)
 keys:(L.map (·.key)).Nodup
 used:Row 3 z.us ((List.range ns).map fun k:Nat=>Value.int .i64 (Fg L (k:Int))) su
 te:∀e∈L,0<=e.te/\e.te<(ns:Int)
 sz:∀e∈L,1<=e.sz
 free:z.fr=z.cap -Lu L
 room:0<=z.fr
 sh:∃a c,z.sh= .slice a ns c
 cap:1<=z.cap/\z.cap<=1000000
theorem Sq(A B:List Br)(k:Int):Fg (A++B) k=Fg A k+Fg B k:=by unfold Fg;rw [CN,tP]
theorem QR(e:Br)(L:List Br)(k:Int):Fg (e::L) k=(if e.te=k then e.sz else 0)+Fg L k:=by unfold Fg;rw [Fc,ln]
theorem M6(A B:List Br):Lu (A++B)=Lu A+Lu B:=by unfold Lu;rw [CN,tP]
theorem KO(e:Br)(L:List Br):Lu (e::L)=e.sz+Lu L:=by unfold Lu;rw [Fc,ln]
theorem OE:∀{L:List Br},(∀e∈L,1<=e.sz)->∀k,0<=Fg L k/\Fg L k<=Lu L
 |[],_,k=>by unfold Fg Lu;simp
 |e::L,h,k=>by
  have g:=OE (fun x hx=>h x (GB _ hx)) k;have h2:=h e (Fo ..)
  rw [QR,KO];split<;>omega
variable{ns:Nat}
theorem WT(f g:Nat->A2)(B:k<ns)(hv:g k=v)(m:∀i,i<ns->i≠k->g i=f i):((List.range ns).map f).set k v=(List.range ns).map g:=by
 apply P2;intro i;rw [W4,Bk,cX,E6,E6];by_cases hi:i<ns
 · rw [Wr hi]
   by_cases e:k=i
   · subst e;rw [Ax rfl,Ax hi,<-hv];rfl
   · rw [As e];exact congrArg some (m i hi (en e)).symm
 · rw [As (by omega:¬k=i),Of Kd];rfl
variable{z:Bi}{L:List Br}{mb ck:Nat}{es:Array MapEntry}{lm:List (CA×A2)}{su:List A8}
theorem Dk.nodup(h:Dk z ns L mb es ck lm su)(B:z.bl.Nodup):(z.r::L.map (·.b)).Nodup:=by
 have g:(z.r::z.E.map (·.b)).Nodup:=B;rw [LI]at g⊢;refine ⟨fun J=>?_,?_⟩
 · obtain ⟨e,G,m⟩:=CI.1 J
   exact g.1 (m▸Fk (h.sub e G))
 · have I:=X1.1 h.keys
   refine X1.2 (I.imp_of_mem fun{a b} ha m hne e=>hne ?_);rw [Ha g.2 (h.sub a ha) (h.sub b m) e]
theorem Dk.use(h:Dk z ns L mb es ck lm su)(k:Int):0<=Fg L k/\Fg L k<=1000000:=by
 have g:=OE h.sz k;have h2:=h.free;have m:=h.room;have B:=h.cap
 omega
theorem Dk.size(h:Dk z ns L mb es ck lm su)(g:e∈L):1<=e.sz/\e.sz<=1000000:=by
 obtain ⟨A,B,rfl⟩:=cW g;have m:=M6 A (e::B)
 rw [KO]at m;have K:=(OE (fun x hx=>h.sz x (G1 _ hx):∀x∈A,1<=x.sz) 0)
 have O:=(OE (fun x hx=>h.sz x (HK _ (GB _ hx)):∀x∈B,1<=x.sz) 0);have h2:=h.free;have G:=h.room;have I:=h.cap;have J:=h.sz e g
 omega
theorem Dk.get(h:Dk z ns L mb es ck lm su)(g:e∈L):EM e.key lm=some (pV e.b):=D8 h.map.keys ((h.mem _).2 ⟨e,g,rfl⟩)
theorem Dk.none{z:Bi}{ns:Nat}{L:List Br}{mb:Nat}{es:Array MapEntry}{ck:Nat}{lm:List (CA×A2)}{su:List A8}(h:Dk z ns L mb es ck lm su){K:CA}(g:∀e∈L,e.key≠K):EM K lm=none:=DY fun p B=>by
 obtain ⟨e,m,rfl⟩:=(h.mem p).1 B;exact g e m
variable{L2 L1:List Br}
theorem iG(h:Dk z ns (L1++e::L2) mb es ck lm su)(hr:Jg nx bf z.r ((L1++L2).map (·.b))){I:Array MapEntry}{G:Nat}{B:List (CA×A2)}
 (hm:Co (fun k:CA=>Value.string k) I G B)(hp:∀p,p∈B↔p∈lm/\p.1≠e.key)(hk:e.te=(k:Int)){K:List A8}(W:Row 3 z.us (((List.range ns).map fun i:Nat=>Value.int .i64 (Fg (L1++e::L2) (i:Int))).set k (I4 (Fg (L1++e::L2) (k:Int)+(-1)*e.sz))) K):
 Dk {z with nx:=nx,bf:=bf,fr:=z.fr -(-1)*e.sz} ns (L1++L2) mb I G B K:=by
 have m:∀x∈L1++L2,x∈L1++e::L2:=fun x hx=>by
  rcases CD.1 hx with hx|hx
  · exact G1 _ hx
  · exact HK _ (GB _ hx)
 have O:k<ns:=by have:=(h.te e B7).2;omega
 have J:∀i:Int,Fg (L1++e::L2) i=Fg (L1++L2) i+if e.te=i then e.sz else 0:=fun i=>by
  rw [Sq,QR,Sq];omega
 have g:=h.keys;rw [CN,Fc,HX,LI]at g;have U:∀x∈L1++L2,x.key≠e.key:=fun x hx=>by
  rcases CD.1 hx with hx|hx
  · exact g.2.2 _ (Fk hx) _ (Fo ..)
  · exact fun hh=>g.2.1.1 (hh▸Fk hx)
 have h1:=h.sz e B7;have h2:=h.room
 have X:=h.free;rw [M6,KO]at X;refine ⟨fun x hx=>h.sub x (m x hx),hr,h.mv,hm,fun p=>?_,?_,?_,fun x hx=>h.te x (m x hx),fun x hx=>h.sz x (m x hx),?_,?_,h.sh,h.cap⟩
 · rw [hp,h.mem]
   constructor
   · rintro ⟨⟨x,hx,rfl⟩,hn⟩
     rcases CD.1 hx with hx|hx
     · exact ⟨x,G1 _ hx,rfl⟩
     · rcases DS.1 hx with rfl|hx
       · exact absurd rfl hn
       · exact ⟨x,HK _ hx,rfl⟩
   · rintro ⟨x,hx,rfl⟩
     exact ⟨⟨x,m x hx,V⟩,U x hx⟩
 · rw [CN,HX]
   exact ⟨g.1,g.2.1.2,fun a Z b hb=>g.2.2 a Z b (GB _ hb)⟩
 · rw [WT (v:=I4 (Fg (L1++e::L2) (k:Int)+(-1)*e.sz)) (fun i:Nat=>Value.int .i64 (Fg (L1++e::L2) (i:Int))) (fun i:Nat=>Value.int .i64 (Fg (L1++L2) (i:Int))) O (by show Value.int .i64 _=Value.int .i64 _;rw [J,Ax hk];congr 1;omega) (fun i _ hi=>by
    show Value.int .i64 _=Value.int .i64 _;rw [J,As A0];congr 1;omega)]at W
   exact W
 · show z.fr -(-1)*e.sz=z.cap -_
   rw [M6];omega
 · show 0<=z.fr -(-1)*e.sz
   omega
theorem Tw(h:Dk z ns L mb es ck lm su)(hr:Jg nx bf z.r ((L++[e]).map (·.b))){G:Array MapEntry}{B:Nat}{m:List (CA×A2)}
 (O:∀x∈L,x.key≠e.key)(hm:Co (fun k:CA=>Value.string k) G B m)(hp:∀p,p∈m↔p=(e.key,pV e.b)\/(p∈lm/\p.1≠e.key))(hk:e.te=(k:Int))(K:k<ns)(hs:1<=e.sz/\e.sz<=z.fr){J:List A8}(U:Row 3 z.us (((List.range ns).map fun i:Nat=>Value.int .i64 (Fg L (i:Int))).set k (I4 (Fg L (k:Int)+1*e.sz))) J):
 Dk {z with E:=z.E++[e],nx:=nx,bf:=bf,fr:=z.fr -1*e.sz} ns (L++[e]) mb G B m J:=by
 have I:∀i:Int,Fg (L++[e]) i=Fg L i+if e.te=i then e.sz else 0:=fun i=>by
  rw [Sq,QR];unfold Fg;simp
 have h3:=h.free;have g:∀{Q:Br->Prop},(∀x∈L,Q x)->Q e->∀x∈L++[e],Q x:=fun W h2 x hx=>by
  rcases CD.1 hx with hx|hx
  · exact W x hx
  · rw [CH.1 hx];exact h2
 refine ⟨g (fun x hx=>G1 _ (h.sub x hx)) (HK _ (CH.2 V)),hr,h.mv,hm,fun p=>?_,?_,?_,g h.te ⟨by omega,by omega⟩,g h.sz hs.1,?_,?_,h.sh,h.cap⟩
 · rw [hp,h.mem]
   constructor
   · rintro (rfl|⟨⟨x,hx,rfl⟩,_⟩)
     · exact ⟨e,by simp,rfl⟩
     · exact ⟨x,G1 _ hx,rfl⟩
   · rintro ⟨x,hx,rfl⟩
     rcases CD.1 hx with hx|hx
     · exact .inr ⟨⟨x,hx,rfl⟩,O x hx⟩
     · rw [CH.1 hx];exact .inl rfl
 · rw [CN,HX]
   refine ⟨h.keys,by simp,fun a X b Z=>?_⟩;obtain ⟨x,hx,rfl⟩:=CI.1 X;obtain rfl:=CH.1 Z;exact O x hx
 · rw [WT (v:=I4 (Fg L (k:Int)+1*e.sz)) (fun i:Nat=>Value.int .i64 (Fg L (i:Int))) (fun i:Nat=>Value.int .i64 (Fg (L++[e]) (i:Int))) K (by show Value.int .i64 _=Value.int .i64 _;rw [I,Ax hk];congr 1;omega) (fun i _ hi=>by
    show Value.int .i64 _=Value.int .i64 _;rw [I,As A0];congr 1;omega)]at U
   exact U
 · show z.fr -1*e.sz=z.cap -_
   rw [M6,KO];unfold Lu at*;simp;omega
 · show 0<=z.fr -1*e.sz
   omega
def VB(M:List A8)(v:A2)(ns:List Int):Prop:=∃p cap,v= .slice p ns.length cap/\∀(i:Nat) (n:Int),ns[i]?=some n->∃g off cur T zz,p=some ⟨g,off,none⟩/\(g,Obj.cells cur T zz)∈M/\cur[off+i]?=some (I4 n)
theorem VB.mono{M m:List A8}{ns:List Int}(h:VB M v ns)(J:∀c∈M,c∈m):VB m v ns:=by
 obtain ⟨p,cap,e,I⟩:=h;refine ⟨p,cap,e,fun i n hi=>?_⟩;obtain ⟨g,off,cur,T,zz,B,h2,G⟩:=I i n hi;exact ⟨g,off,cur,T,zz,B,J _ h2,G⟩
theorem ou{ns:List Int}{s:List A8}(h:Row 3 v (ns.map (Value.int .i64)) s):VB s v ns:=by
 rcases h with⟨rfl,h0,_⟩|⟨g,cap,cur,z,rfl,rfl,h1,h2,h3,h4,_⟩
 · have B:ns=[]:=by simpa using h0
   subst B;exact ⟨none,0,V,fun i n hi=>by simp at hi⟩
 · rw [Bk]at h4⊢
   refine ⟨some ⟨g,0,none⟩,cap,V,fun i n hi=>⟨g,0,cur,_,z,V,CH.2 V,?_⟩⟩;have G:=(C7.1 hi).1
   have m:=congrArg (fun l=>l[i]?) h4;simp only [HR,Ax G,E6,hi]at m;rw [Dd];simpa using m
def Bi.cs(z:Bi):Int×A2:=(z.cap,z.sh)
theorem Rh(z:Bi)(g:z.bl.Nodup)(G:e∈z.E){p:Nat}(I:p∈z.bl)(m:z.bf z.r=pV p):BS prog 93 #[.pointer (some ⟨e.b,0,none⟩),.pointer (some ⟨z.r,0,none⟩)] [z.S] (fun v H'=>v=undef/\H'=[({z with nx:=DZ (DZ z.nx e.b (pV z.r)) p (pV e.b),bf:=DZ (DZ z.bf e.b (pV p)) z.r (pV e.b)}:Bi).S]):=by
 have B:e.b∈z.bl:=GB _ (Fk G);obtain ⟨c1,T1,J,s1,W⟩:=z.upd g B;obtain ⟨c2,T2,K,s2,X⟩:=Bi.upd ({z with bf:=DZ z.bf e.b (pV p)}:Bi) g B;obtain ⟨c3,T3,O,s3,Z⟩:=Bi.upd ({z with bf:=DZ z.bf e.b (pV p),nx:=DZ z.nx e.b (pV z.r)}:Bi) g I;obtain ⟨c4,T4,U,s4,u4⟩:=Bi.upd ({z with bf:=DZ z.bf e.b (pV p),nx:=DZ (DZ z.nx e.b (pV z.r)) p (pV e.b)}:Bi) g (Fo ..);refine Se func93 ntmps93 [0,1] ?_;intro u R;refine AK Y<|Zm Y<|Zm Y<|Zp Y V<|Zh 3 Lq V rfl LL Y<|Bu (HY Wo (z.root)) (BK isAgg190 Y (congrArg some m)) V rfl<|Zm Y<|Zp Y V<|Zh 3 Lq V rfl LL Y<|Xe (IZ LL Y Y V Wo (J) (by exact (W _).2) A0 (by exact BB _))<|Zp Y V<|Zh 4 Lq V rfl LL Y<|Xe (IZ LL Y Y V Wo (K) (by exact (X _).1) A0 (by exact BB _))<|Z0<|Zn [0,1] ?_;refine Zx<|Zg<|Zm Y<|Zp Y V<|Zh 3 Lq V rfl LL Y<|Bu (HY Wo ((Bi.node ({z with bf:=DZ z.bf e.b (pV p),nx:=DZ z.nx e.b (pV z.r)}:Bi) G))) (BK isAgg190 Y (by exact congrArg some (IR _ _ _))) V rfl<|Zm Y<|Zm Y<|Zm Y<|Zp Y V<|Zh 4 Lq V rfl LL Y<|Xe (IZ LL Y Y V Wo (O) (by exact (Z _).1) A0 (by exact BB _))<|Zp Y V<|Zh 3 Lq V rfl LL Y<|Xe (IZ LL Y Y V Wo (U) (by exact (u4 _).2) A0 (by exact BB _))<|Z0<|DC V results93 (by exact ⟨V,V⟩)
theorem Ol(z:Bi)(O:z.bl.Nodup)(G:e∈z.E){sg:Int}(J:sg=1\/sg=-1){xs:List A2}(hu:Row 3 z.us xs su)(W:e.te=(k:Int)){x:Int}(hx:xs[k]?=some (I4 x))(ax:-1000000000<=x/\x<=1000000000)(af:0<=e.sz/\e.sz<=1000000000)(U:-1000000000<=z.fr/\z.fr<=1000000000):BS prog 94 #[.pointer (some ⟨z.r,0,none⟩),.pointer (some ⟨e.b,0,none⟩),I4 sg] [z.S,su] (fun v H'=>v=undef/\∃B,Row 3 z.us (xs.set k (I4 (x+sg*e.sz))) B/\H'=[({z with fr:=z.fr -sg*e.sz}:Bi).S,B]):=by
 have X:=(C7.1 hx).1;obtain ⟨bu,cu,cur,zu,K,rfl,Z,I,g,m⟩:=Y4 hu hx;have hm:-1000000000<=sg*e.sz/\sg*e.sz<=1000000000:=by rcases J with rfl|rfl<;>omega
 refine Se func94 ntmps94 [0,1,2] ?_;intro u R;refine Zq<|Ay (n:=19) (0::1::3::7::0::16::48::112::255::511::0::0::2048::6144::14336::31744::65535::131071::262143::[]) 262144 AD AD V<|A1 0 V (AP Y)<|A1 1 V (Ao Y V)<|A1 2 V (AB (off:=7) Ln V rfl fg Y)<|Cn (D':=15) 3 V rfl V (FN Wo (z.root)) (BK eK Y (congrArg some K)) ?_;refine A1 4 V (AP Y)<|A1 5 V (Ao Y V)<|A1 6 V (AB (off:=1) Lq V rfl A6 Y)<|Cn (D':=255) 7 V rfl V (FN Wo (z.node G)) (BK AE Y (by exact congrArg (fun t=>some (Value.int .i64 t)) W)) ?_;refine A1 8 rfl (Bd DP A6 Y Y (by first|omega|(rw [V2];omega)))<|Bm 9 rfl AE Y (hv:=by exact g) ?_;refine A1 10 V (AP Y)<|A1 11 V (AP Y)<|A1 12 V (Ao Y V)<|A1 13 V (AB (off:=2) Lq V rfl A6 Y)<|Cn (D':=32767) 14 V rfl V (FN Wo (z.node G)) (BK AE Y B1) ?_
 (refine F5 (D':=65535) 15 (vS Y Y (IntWalk.i64_in _ ?_)) ?_;(focus (omega)))
 (refine F5 (D':=131071) 16 (J6 Y Y (IntWalk.i64_in _ ?_)) ?_;(focus (omega)))
 refine A1 17 rfl (Bd DP A6 Y Y (by first|omega|(rw [V2];omega)))<|Yw 18 524287 rfl (Zs A6 Y Y rfl (hi:=by omega) (hz:=by exact I))<|F0<|Aq<|Zn [0,1,2] ?_;refine Zx<|Ay (n:=14) (0::1::3::7::0::0::32::96::224::496::1023::2047::4095::8191::[]) 8192 AD AD V<|A1 0 V (AP Y)<|A1 1 V (Ao Y V)<|A1 2 V (AB (off:=9) Ln V rfl A6 Y)<|Cn (D':=15) 3 V rfl V (FN Wo (z.root)) (BK AE Y B1) ?_;refine A1 4 V (AP Y)<|A1 5 V (AP Y)<|A1 6 V (Ao Y V)<|A1 7 V (AB (off:=2) Lq V rfl A6 Y)<|Cn (D':=511) 8 V rfl V (FN Wo (z.node G)) (BK AE Y B1) ?_
 (refine F5 (D':=1023) 9 (vS Y Y (IntWalk.i64_in _ ?_)) ?_;(focus (omega)))
 (refine F5 (D':=2047) 10 (GZ Y Y (IntWalk.i64_in _ ?_)) ?_;(focus (omega)))
 refine A1 11 V (Ao Y V)<|A1 12 V (AB (off:=9) Ln V rfl A6 Y)<|Zz (l:=[13])<|BW [false,false] [] V rfl (IZ A6 Y Y V Wo (z.root) (by exact z.fr_upd O _) Wn (by exact BB _)) ?_ (fun _ _ h=>h.elim) Aj;rintro _ _ ⟨rfl,rfl⟩;refine C3<|Aq<|DC V results94 (by exact ⟨V,_,m _,V⟩)
theorem qg(z:Bi)(m:z.mv= .map (some mb))(B:Co (fun k:CA=>Value.string k) es ck lm)(K:CA):Au prog 185 #[.pointer (some ⟨z.r,0,none⟩),.string K] [z.S,[(mb,.map es ck)]] (.tuple #[(EM K lm).getD (.pointer none),.bool (EM K lm).isSome]):=by
 refine Se func185 ntmps185 [0,1] ?_;intro u R;refine A3<|Za Y<|AH Y<|B8 Y<|Zv (Bb pD Y Y)<|A4<|AY Y (fun g=>by cases g)<|fun g=>B3<|AK Y<|Zp Y V<|Zh 8 Ln V rfl kB Y<|Bu (HY Wo (z.root)) (BK isAgg189 Y (congrArg some m)) V rfl<|Zm Y<|Zo Wh (EO (EI GW (D:=fun _=>True)) j1 pt B (fun _ _=>trivial) (trivial) (⟨V,V⟩) Y Y)<|Zm Y<|Zd Y V<|Zd Y V<|Za Y<|B2 Y<|Zn [6,7] ?_;refine Zx<|AK Y<|Zm Y<|Za Y<|An Y<|DR V results185 Y Y (by exact ⟨V,V⟩)
theorem Vy(g:Dk z ns (L1++e::L2) mb es ck lm su)(Z:z.bl.Nodup):BS prog 89 #[.pointer (some ⟨z.r,0,none⟩),.pointer (some ⟨e.b,0,none⟩)] [z.S,[(mb,.map es ck)],su] (fun v H'=>v=undef/\∃K G B ek J,K.r=z.r/\K.cs=z.cs/\K.E=z.E/\Dk K ns (L1++L2) mb G B ek J/\H'=[K.S,[(mb,.map G B)],J]):=by
 have he:e∈z.E:=g.sub e B7;have bn:=g.nodup Z
 obtain ⟨p,n,hp,hn,X,cu,m⟩:=A29 (l1:=L1.map (·.b)) (l2:=L2.map (·.b)) (x:=e.b) (by simpa using bn) (by simpa using g.ring);have I:∀q,q∈z.r::(L1.map (·.b)++L2.map (·.b))->q∈z.bl:=fun q O=>by
  rcases DS.1 O with rfl|O
  · exact Fo ..
  · rw [<-CN]at O
    obtain ⟨x,hx,rfl⟩:=CI.1 O;exact GB _ (Fk (g.sub x (by rcases CD.1 hx with h|h<;>simp [h])))
 rw [<-CN]at m;have j3:=g.te e B7
 obtain ⟨k,hk⟩:∃k:Nat,e.te=(k:Int):=⟨e.te.toNat,by omega⟩;have af:k<ns:=by omega
 have j5:=g.use (k:Int);have ic:=g.size (e:=e) B7
 have gy:=g.room;have gQ:z.fr<=1000000:=by
  have h1:=g.free;have h2:=g.cap;have h3:=OE g.sz 0
  omega
 refine Se func89 ntmps89 [0,1] ?_;intro u R;refine AK Y<|Zc [_] Y call161 Y V (ZL z Z he (I p hp) (I n hn) X cu) ?_;rintro _ _ ⟨_,⟨rfl,rfl⟩,rfl⟩;refine A4<|Zq<|Ay (n:=9) (0::1::3::7::0::16::48::112::255::[]) 256 AD AD V<|A1 0 V (AP Y)<|A1 1 V (Ao Y V)<|A1 2 V (AB (off:=8) Ln V rfl kB Y)<|Cn (D':=15) 3 V rfl V (FN Wo ((Bi.root ({z with nx:=DZ z.nx p (pV n),bf:=DZ z.bf n (pV p)}:Bi)))) (BK isAgg189 Y (congrArg some g.mv)) ?_;refine A1 4 V (AP Y)<|A1 5 V (Ao Y V)<|A1 6 V (AB (off:=0) Lq V rfl FG Y)<|Cn (D':=255) 7 V rfl V (FN Wo ((Bi.node ({z with nx:=DZ z.nx p (pV n),bf:=DZ z.bf n (pV p)}:Bi) he))) (BK H3 Y B1) ?_;refine Yw 8 511 V (M4 (EI GW (D:=fun _=>True)) j1 g.map (fun _ _=>trivial) (trivial) Y Y Wo) ?_;rintro _ _ ⟨rfl,W,U,gm,ax,cO,rfl⟩;refine Aq<|Zx<|Zg<|Zm Y<|Zm Y<|Zc [_,_,_] Y call94 Y rfl (Ol ({z with nx:=DZ z.nx p (pV n),bf:=DZ z.bf n (pV p)}:Bi) Z he (.inr rfl) g.used hk (k:=k) (x:=Fg (L1++e::L2) (k:Int)) (by rw [E6,Wr af];rfl) A0 A0 (by show _<=z.fr/\z.fr<=_;omega)) ?_;rintro _ _ ⟨_,⟨rfl,gq,d9,rfl⟩,rfl⟩;refine Z0<|DC V results89 (by exact ⟨V,({z with nx:=DZ z.nx p (pV n),bf:=DZ z.bf n (pV p),fr:=z.fr -(-1)*e.sz}:Bi),W,U,gm,gq,V,V,V,iG g m ax cO hk d9,V⟩)
theorem o7(B:Dk z ns (L1++e::L2) mb es ck lm su)(Z:z.bl.Nodup):BS prog 110 #[.pointer (some ⟨z.r,0,none⟩),.string e.key] [z.S,[(mb,.map es ck)],su] (fun v H'=>v= .bool true/\∃J m g I G,J.r=z.r/\J.cs=z.cs/\J.E=z.E/\Dk J ns (L1++L2) mb m g I G/\H'=[J.S,[(mb,.map m g)],G]):=by
 have hg:=B.get (e:=e) B7;refine Se func110 ntmps110 [0,1] ?_;intro u R;refine A3<|AH Y<|AK Y<|Zm Y<|Xr [_,_] Y call185 Y V (qg z B.mv B.map e.key) ?_;rw [hg,lB];refine Zm Y<|Zd Y V<|Zd Y V<|Za Y<|AH Y<|B8 Y<|A4<|AY Y (fun K=>?_) (fun K=>?_);·
  refine Zg<|Zm Y<|Zm Y<|Zc [_,_] Y call89 Y V (Vy B Z) ?_;rintro _ _ ⟨_,⟨rfl,J,m,g,I,G,X,W,U,O,rfl⟩,rfl⟩;refine Z0<|Zn [6] ?_;refine Zx<|AK Y<|An Y<|AO V results110 Y (by exact ⟨V,J,m,g,I,G,X,W,U,O,V⟩)
 cases K
theorem AF1(B:Dk z ns (L) mb es ck lm su)(hd:z.bl.Nodup)(U:k<ns):Au prog 70 #[.pointer (some ⟨z.r,0,none⟩),I4 (k:Int)] [z.S,[(mb,.map es ck)],su] (I4 (Fg L (k:Int))):=by
 obtain ⟨X,Z,cur,zu,g,rfl,W,O,m,I⟩:=Y4 B.used (k:=k) (by rw [E6,Wr U];rfl);rw [Bk,cX]at g;refine Se func70 ntmps70 [0,1] ?_;intro u R;refine A3<|AH Y<|B8 Y<|Zv (Bb pD Y Y)<|Zm Y<|Ad (t:=7) Y V (fun G=>by cases G)<|fun G=>Zf Y Y<|Yg (Ap (n:=0) Y Y)<|B9 Y Y<|Zm Y<|Af (t:=11) Y V (fun K=>by omega)<|fun K=>Zf Y Y<|Zf Y Y<|Yg (Ao Y V)<|Yf 7 Ln V rfl fg Y<|Mf Y (HY Wo (z.root)) (BK eK Y (congrArg some g)) V rfl ?_;refine Yg (AR DP Y)<|Yg (Ef Y Y)<|B9 Y Y<|Z0<|Zn [0,1,19] ?_;refine Zx<|Ak Y (fun J=>by omega)<|fun J=>B3<|AK Y<|Zp Y V<|Zh 7 Ln V rfl fg Y<|Bu (HY Wo (z.root)) (BK eK Y (congrArg some g)) V rfl<|Zm Y<|BX (Bd DP A6 Y Y A0)<|Zl AE Y (hv:=by exact m)<|An Y<|AO V results70 Y (by exact ⟨V,V⟩)
end Go.Proofs.YtlkdhannldcfbabGreatDoor
