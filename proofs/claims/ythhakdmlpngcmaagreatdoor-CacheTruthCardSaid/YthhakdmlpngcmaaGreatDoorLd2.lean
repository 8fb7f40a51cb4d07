/- Sane. -/
import Derived.Test.YthhakdmlpngcmaaGreatDoorCe9
set_option linter.unusedVariables false
set_option linter.unusedSimpArgs false
namespace Go.Proofs.YthhakdmlpngcmaaGreatDoor
open Go.Proofs.Tryz
open Go Go.RowKit Gw
set_option maxRecDepth 100000
attribute [local irreducible] Gw.At Gw.Nx Gw.Ops
variable{c:Chg}
theorem bN{M:List A9}{g:Nat}{T:AK}{z:Nat×Nat}{cur:AM}(G:(g,Obj.cells cur T z)∈M)(I:10<=cur.size)(B:cur.extract 0 10=c.A93):Cv M (I2 g [c].length 1) [c]:=⟨_,_,rfl,by show 1<=maxLen;decide,fun i x m=>by
 match i,m with
 |0,m=>injection m with m;subst m;exact ⟨g,0,cur,T,z,rfl,G,by omega,by simpa using B⟩
 |i+1,m=>simp at m⟩
theorem vL(G I B:Nat):∃(l:List BR) (M:List A9),M=[(G,Obj.cells #[I0 0,I0 5,.bool false,I0 0,I0 0,I0 0,.bool true,I0 10,I0 2,I0 7] 74 (0,0))]++([(I,Obj.cells #[I0 0,I0 6,.bool false,I0 0,I0 0,I0 0,.bool true,I0 11,I0 9,I0 7] 74 (0,0))]++[(B,Obj.cells #[I0 1,I2 G 1 1,I0 2,I2 I 1 1] 57 (0,0))])/\rS l/\Ee M (I2 B l.length 2) l:=by
 refine ⟨bA (some ⟨G,0,none⟩) (some ⟨I,0,none⟩),_,V,vM _ _,⟨_,_,V,⟨by show 2<=maxLen;decide,CT _⟩,fun i r m=>?_⟩⟩
 match i,m with
 |0,m=>injection m with m;subst m;exact ⟨bN (g:=G) (c:=exD 5 10 2) (.head _) B0 rfl,B,0,_,_,_,rfl,.tail _ (.tail _ (.head _)),dr rfl,rfl⟩
 |1,m=>injection m with m;subst m;exact ⟨bN (g:=I) (c:=exD 6 11 9) (.tail _ (.head _)) B0 rfl,B,0,_,_,_,rfl,.tail _ (.tail _ (.head _)),dr rfl,rfl⟩
 |i+2,m=>simp [bA]at m
set_option maxHeartbeats 4000000 in
theorem tE(Tg:AK)(zg:Nat×Nat)(Tp:AK)(zp:Nat×Nat):BJ prog 5 #[] [[(4,.cells (Ez.map Cw).toArray Tg zg)],[(1,.cells (Lib.pow10Tab.map fun z=>Value.int .u64 z).toArray Tp zp)]] (.bool true):=by
 have hml:=mL;refine Se func5 ntmps5 [] ?_;intro u R;refine A1<|A5 Y<|A1<|Zv (BM (vs:=[(0,_),(1,_),(2,_)]) (cs:=#[_,_,_]) Y (DZ cW I3 AE V))<|Zv (BM (vs:=[(1,I0 5),(4,.bool true),(5,.agg #[I0 10,I0 2,I0 7])]) (cs:=#[I0 0,I0 5,.bool false,I0 0,I0 0,I0 0,.bool true,I0 10,I0 2,I0 7]) Y (AZ (pl:=#[(0,1),(1,1),(2,1),(3,3),(6,1),(7,3)]) Lw C3 (fun _=>by kernel_rfl) AF))<|Ze (Ai (vs:=[_]) (cs:=[_,_,_,_,_,_,_,_,_,_]) Gk CA Lw Y V rfl V rfl V)<|AG fun g1=>Zv (BM (vs:=[(0,_),(1,_)]) (cs:=#[_,_]) Y (AZ (pl:=#[(0,1),(1,1)]) Tl HF (fun _=>by kernel_rfl) V))<|Zv (BM (vs:=[(0,_),(1,_),(2,_)]) (cs:=#[_,_,_]) Y (DZ cW I3 AE V))<|Zv (BM (vs:=[(1,I0 6),(4,.bool true),(5,.agg #[I0 11,I0 9,I0 7])]) (cs:=#[I0 0,I0 6,.bool false,I0 0,I0 0,I0 0,.bool true,I0 11,I0 9,I0 7]) Y (AZ (pl:=#[(0,1),(1,1),(2,1),(3,3),(6,1),(7,3)]) Lw C3 (fun _=>by kernel_rfl) AF))<|Ze (Ai (vs:=[_]) (cs:=[_,_,_,_,_,_,_,_,_,_]) Gk CA Lw Y V rfl V rfl V)<|AG fun g2=>Zv (BM (vs:=[(0,_),(1,_)]) (cs:=#[_,_]) Y (AZ (pl:=#[(0,1),(1,1)]) Tl HF (fun _=>by kernel_rfl) V))<|Ze (Ai (vs:=[_,_]) (cs:=[_,_,_,_]) HA G3 Tl Y V rfl V rfl V)<|AG fun g0=>A5 Y<|Zq<|Cb (s1:=[(g2,Obj.cells #[I0 0,I0 6,.bool false,I0 0,I0 0,I0 0,.bool true,I0 11,I0 9,I0 7] 74 (0,0))]) (s2:=[(g0,Obj.cells #[I0 1,I2 g1 1 1,I0 2,I2 g2 1 1] 57 (0,0))]) Wo Wo ?_;refine Cb (s1:=[(g1,Obj.cells #[I0 0,I0 5,.bool false,I0 0,I0 0,I0 0,.bool true,I0 10,I0 2,I0 7] 74 (0,0))]) (s2:=([(g2,Obj.cells #[I0 0,I0 6,.bool false,I0 0,I0 0,I0 0,.bool true,I0 11,I0 9,I0 7] 74 (0,0))]++[(g0,Obj.cells #[I0 1,I2 g1 1 1,I0 2,I2 g2 1 1] 57 (0,0))])) Wo Wo ?_;obtain ⟨l,M,hM,G,qa⟩:=vL g1 g2 g0;rw [<-hM];have zl:=G.len
 rw [show(Value.slice (some ⟨g0,0,none⟩) 2 2:A4)=I2 g0 l.length 2 by rw [zl]];obtain ⟨r2,U,za,MP⟩:=G.two;obtain ⟨af,gm,offm,curm,Tm,zm,sj,r9,hszm,ax⟩:=rX qa U;injection sj with sj
 injection sj with hpm1 hpm2 _
 subst hpm1 hpm2;refine Zg<|Zv (BM (vs:=[(0,I0 3),(2,I0 1),(3,I0 10),(4,I0 19)]) (cs:=#[I0 3,I0 0,I0 1,I0 10,I0 19,I0 0,I0 0]) Y (AZ (pl:=#[(0,1),(1,1),(2,1),(3,1),(4,1),(5,1),(6,1)]) N1 CI (fun _=>by kernel_rfl) AF))<|Ze (Al N1 #[_,_,_,_,_,_,_])<|AG fun bq=>Xe (Xw CM #[I0 3,I0 0,I0 1,I0 10,I0 19,I0 0,I0 0])<|Z0<|Zn [1,2] ?_;refine Zx<|A1<|Zo Wh (AB (cs:=#[_,_,_,_,_,_,_]) F1 CM Y B0 (BO V))<|Xr [_] Y call10 Y V (Ni exQ U8 Tp zp)<|Zm Y<|Zd Y V<|Zd Y V<|Za Y<|A5 Y<|A1<|Ze (Ai (vs:=[_]) (cs:=[_]) DG AE HI Y V rfl V rfl V)<|AG fun gs=>Zc [_,_,_] Y call8 Y V (zh (sh:=[5]) (rM gs (I0 5)) 1 10 B0 B0 B0 B0 B0) ?_;rintro _ _ ⟨_,⟨c0,rfl,Y2,⟨W,o9,hw0⟩,hp0,FT,ek,Z,MJ,rfl⟩,rfl⟩;have LD:UO c0 [5]:=⟨MJ,ek.symm,by simp⟩
 have L0:IE l 1 c0:=⟨Y2,hp0,by omega,by rw [hw0];exact Rq l 1,fun x K=>by rw [W]at K;cases K⟩;refine Zm Y<|Zd Y V<|Zd Y V<|Za Y<|AW Y<|Zn [1,2,3,5,6] ?_;refine Zx<|A1<|Ze (Ai (vs:=[_]) (cs:=[_]) DG AE HI Y V rfl V rfl V)<|AG fun Ta=>Xr [_,_,_] Y call8 Y V (vV (-1) 10 (I2 Ta 1 1) B0)<|Zm Y<|Zd Y V<|Zd Y V<|Za Y<|A5 Y<|Zq<|A1<|Zm Y<|Zv (Bg SM Y Y)<|Zm Y<|Aj (t:=55) Y V (fun k1=>by cases k1)<|fun k1=>Zf Y Y<|Yg (EU (n:=0) Y Y)<|Zv (AL Y Y)<|Zm Y<|Ao (t:=59) Y V (fun k2=>?_) (fun k2=>?_);·
  exact absurd V k2
 refine Zf Y Y<|Yg (EU (n:=180) Y Y)<|Zv (AL Y Y)<|Z0<|Zn [1,2,3,5,62] ?_;refine Zx<|Av Y (fun k3=>?_) (fun k3=>?_);·
  exact absurd V k3
 refine AC<|Zx<|A1<|Zm Y<|Zm Y<|Zo Wh (AB (cs:=#[_,_,_,_,_,_,_]) F1 CM Y B0 (BO V))<|Zc [_,_,_,_] Y call14 Y V (Xm qa G.b.ok A0 1 A0 U8 (G.b.scan 1 A0 exQ) 0 Tg zg) ?_;rintro _ _ ⟨_,⟨E1,pg1,cg1,vw,rfl,rfl⟩,rfl⟩;have l8:1+((0:Nat):Int)<=c0.z.fr:=by
  have h9:=ja L0.ok.tookb (B:=0) (by rw [o9];simp);rw [W,Z]at h9;simp at h9⊢;omega
 refine Zc [_,_] Y call13 Y rfl (zZ G.b L0 LD U8 (k:=0) (by rw [ek];decide) B0 (a:=1) A0 vw (by have:=FT;omega) (by rw [W];decide) (n:=0) (fun b hb=>by rw [UF];decide) l8 Tp zp) ?_;rintro _ _ ⟨_,⟨b1,c1,rfl,L1,d9,hnn1,Tc,Mx,rfl⟩,rfl⟩;obtain ⟨rfl,y1,j5,kv,qz,gy,hsz1⟩:=WJ W o9 A0 Tc;rw [<-d9.cp];have zu:c1.ns=1:=d9.ns.trans ek
 have qj:c1.z.cap=10:=d9.cap.trans Z;have hnx1:c1.next<=11:=by omega
 refine A5 Y<|A1<|Zm Y<|Zm Y ?_;have bn:=Rb L1.ok (x:=y1) (by rw [j5];simp) (by rw [gy,L1.pos];omega)
 rw [qz]at bn;refine Zc [_,_] Y call18 Y V (bn) ?_;rintro _ _ ⟨_,⟨z1,l1,s1,MS,hpc1,hzo1,rfl,rfl⟩,rfl⟩;obtain ⟨a1,e11,e12,e13,e14,Qe⟩:=L1.at G.b (x:=y1) (by rw [j5];simp);obtain rfl:a1=1:=by omega
 have hv1:z1.a.res.val=1:=by rw [MS];show y1.res.val=1;rw [(Qe A0).1,kv];exact G.e1
 have hu1:z1.a.until_=1:=by rw [MS];show c1.pos=1;rw [L1.pos];rfl
 refine Zm Y<|Zd Y V<|Zd Y V<|Ze (Al Ly #[_,_,_,_,_,_,_,_,_,_,_,_,_,_,_])<|AG fun ba=>Xe (Xw LL z1.A96)<|AW Y<|Zn [1,2,3,5,9,10,11] ?_;refine Zx<|A1<|Zm Y<|Zm Y<|BZ (Ad (j:=1) HA G3 Y Y A0)<|CS (IZ Wo (r9)) (AB (cs:=#[_,_]) IH G3 Y A0 ax) V rfl<|Zc [_,_] Y call16 Y V (gK G.b L1 U af) ?_;rintro _ _ ⟨_,⟨c2,q22,Ps,zs2,tv2,sT2,rfl,L2,m,pz,rfl⟩,rfl⟩;have MB:=Mx.of m.ns m.sc m.M
 have J:r2.p=c1.pos+1:=(L1.next G.b U).2;rw [L1.pos]at J;have P6:zs2=[y1.key]:=s8 m j5 (by unfold Y8;rw [kv];exact za) (by rw [gy,J];omega)
 rw [P6,qz]at pz;obtain ⟨gt,capt,sM,zt,rfl,rfl,hszt,hct⟩:=rH pz (n:=1) rfl B0;have y9:sM[0]?=some (.string (str (Bn exQ))):=hct 0 B0
 rw [<-m.cp];obtain ⟨y2,zb,sw,zf,ic⟩:=kC m j5 (by rw [gy];omega) (by rw [kv];decide);rw [kv]at sw;rw [qz]at zf;rw [gy]at ic;have zy:c2.ns=1:=m.ns.trans zu
 have ql:c2.z.cap=10:=m.zcap.trans qj;have hnx2:c2.next<=12:=by rw [m.next];omega
 refine Zm Y<|Zd Y V<|Zd Y V<|Za Y<|A5 Y<|A1<|Zm Y<|Zm Y ?_;have cu:=Rb L2.ok (x:=y2) (by rw [zb];simp) (by rw [ic,L2.pos];omega)
 rw [zf]at cu;refine Zc [_,_] Y call18 Y V (cu) ?_;rintro _ _ ⟨_,⟨z2,l2,s2,sJ,Gw,hzo2,rfl,rfl⟩,rfl⟩;obtain ⟨a2,e21,e22,e23,Rl,e25⟩:=L2.at G.b (x:=y2) (by rw [zb];simp);obtain rfl:a2=1:=by omega
 obtain ⟨e241,sO,o8,_⟩:=Rl A0;have hv2:z2.a.res.val=2:=by rw [sJ];show y2.res.val=2;rw [sO,sw];exact G.e2
 have hs2:z2.a.since=2:=by
  rw [sJ];show y2.since=2
  rw [sw]at o8;obtain ⟨⟨a1,a2⟩,_,a4⟩:=o8;rcases (by omega:y2.since=2\/y2.since<=1)with h9|h9
  · exact h9
  · have ht:=a4 1 r2 A0 B0 U
    rw [MP]at ht;cases ht
 have hn2:z2.a.recs.length=1:=by
  rw [sJ];show l2.length=1
  have h9:=congrArg List.length Gw;rw [B6,B6,OC (by rw [L2.pos,ic];omega),L2.pos,ic]at h9;omega
 refine Zm Y<|Zd Y V<|Zd Y V<|Ze (Al Ly #[_,_,_,_,_,_,_,_,_,_,_,_,_,_,_])<|AG fun bb=>Xe (Xw LL z2.A96)<|AW Y<|Zn [1,2,3,5,9,10,11,12,13,14,15] ?_;refine Zx<|A1<|Zm Y<|Zm Y<|BZ (Ad (j:=1) HA G3 Y Y A0)<|CS (IZ Wo (r9)) (AB (cs:=#[_,_]) IH G3 Y A0 ax) rfl rfl<|Xr [_,_] Y call16 Y rfl (ZX L2.ok.tookb af (L1.next G.b U).1 (by rw [J,L2.pos];omega))<|Zm Y<|Zd Y rfl<|Zd Y rfl<|Za Y<|A5 Y<|A1<|Zm Y<|Zc [_,_] Y call22 Y rfl (tt L2.ok 1 B0) ?_;rintro _ _ ⟨_,⟨rfl,c3,hc3,wz,⟨I,p8,hw3⟩,Gl,gq,X,O,p9,rfl⟩,rfl⟩;have MC:=MB.of X p9.1 p9.2
 rw [<-wz];have L3:IE l 1 c3:=⟨hc3,Gl,by omega,by rw [hw3];exact Rq l 1,fun x K=>by rw [I]at K;cases K⟩
 rw [zy]at X;rw [ql]at O;replace gq:c3.next<=13:=by rw [gq];omega
 refine A6<|A1<|Zm Y<|Zc [_] Y call17 Y V (zn L3.ok.tookb) ?_;rintro _ _ ⟨_,⟨zs3,sk3,pq,_,KS,rfl⟩,rfl⟩;rw [I]at pq;have P7:zs3=[]:=pq.eq_nil
 subst P7;obtain ⟨pk3,ck3,rfl⟩:=jW KS (n:=0) rfl;refine Zv (Ab DH Y)<|Zv (Cj (n:=0) Y Y)<|Zm Y<|Ao (t:=102) Y V (fun k4=>?_) (fun k4=>?_);·
  refine Zf Y Y<|Xr [_] Y call15 Y V (gL c3) ?_;rw [Gl];refine Yg (Cj (n:=1) Y Y)<|Zv (AX Y Y)<|AW Y<|Zn [1,2,3,5,9,10,11,12,13,14,15,17,18] ?_;refine Zx<|A1<|Zm Y<|Zm Y<|Zo Wh (AB (cs:=#[_,_,_,_,_,_,_]) F1 CM Y B0 (BO V))<|Zc [_,_,_,_] Y call14 Y V (Xm qa G.b.ok A0 2 A0 U8 (G.b.scan 2 A0 exQ) 0 Tg zg) ?_;rintro _ _ ⟨_,⟨E2,pg2,cg2,vz,rfl,rfl⟩,rfl⟩;have l9:1+((0:Nat):Int)<=c3.z.fr:=by
   have h9:=ja L3.ok.tookb (B:=0) (by rw [p8];simp);rw [I,O]at h9;simp at h9⊢;omega
  refine Zc [_,_] Y call13 Y rfl (zZ G.b L3 MC U8 (k:=0) (by rw [X];decide) B0 (a:=2) A0 vz (by have:=gq;omega) (by rw [I];decide) (n:=0) (fun b hb=>by rw [UF];decide) l9 Tp zp) ?_;rintro _ _ ⟨_,⟨b4,c4,rfl,L4,dn,hnn4,Ty,ME,rfl⟩,rfl⟩;obtain ⟨rfl,y4,qw,Hf,zi,j3,MK⟩:=WJ I p8 A0 Ty;rw [<-dn.cp];have E9:c4.ns=1:=dn.ns.trans X
  have qo:c4.z.cap=10:=dn.cap.trans O;have hnx4:c4.next<=14:=by omega
  refine A5 Y<|A1<|Zm Y<|Zm Y ?_;have yt:=Vz L4.ok (x:=y4) (by rw [qw];simp) (by rw [j3,L4.pos];omega)
  rw [zi]at yt;refine Xr [_,_] Y call18 Y V (yt)<|Zm Y<|Zd Y V<|Zd Y V<|Ze (Al Ly #[_,_,_,_,_,_,_,_,_,_,_,_,_,_,_])<|AG fun bc=>Xe (Xw LL #[I0 0,I0 0,I0 0,I0 0,I0 0,I0 0,I0 0,.slice none 0 0,I0 0,.bool false,I0 0,I0 0,I0 0,.slice none 0 0,.slice none 0 0])<|AW Y<|Zn [1,3,5,9,10,11,12,13,14,15,17,18,19,21] ?_;refine Zx<|A1<|Zm Y<|Zm Y<|BZ (Ad (j:=1) HA G3 Y Y A0)<|CS (IZ Wo (r9)) (AB (cs:=#[_,_]) IH G3 Y A0 ax) V rfl<|Zc [_,_] Y call16 Y V (gK G.b L4 U af) ?_;rintro _ _ ⟨_,⟨c5,q52,Qd,zs5,tv5,sT5,rfl,L5,g,q9,rfl⟩,rfl⟩;have hsh5:=ME.of g.ns g.sc g.M
  have J:r2.p=c4.pos+1:=(L4.next G.b U).2;rw [L4.pos]at J;have Pn:zs5=[]:=wh g fun x K=>by rw [qw]at K;rw [C5.1 K,j3];omega
  rw [Pn]at q9;obtain ⟨pk5,ck5,rfl⟩:=jW q9 (n:=0) rfl;rw [<-g.cp];obtain ⟨y5,qx,HZ,zk,qb⟩:=kC g qw (by rw [j3];omega) (by rw [Hf];decide);rw [Hf]at HZ;rw [zi]at zk;rw [j3]at qb;have pg:c5.ns=1:=g.ns.trans E9
  have hcap5:c5.z.cap=10:=g.zcap.trans qo;have hnx5:c5.next<=15:=by rw [g.next];omega
  refine Zm Y<|Zd Y V<|Zd Y V<|Za Y<|A5 Y<|A1<|Zm Y<|Zm Y ?_;have cO:=Rb L5.ok (x:=y5) (by rw [qx];simp) (by rw [qb,L5.pos];omega)
  rw [zk]at cO;refine Zc [_,_] Y call18 Y V (cO) ?_;rintro _ _ ⟨_,⟨z5,l5,s5,P5,hpc5,hzo5,rfl,rfl⟩,rfl⟩;obtain ⟨a5,e51,e52,e53,e54,T9⟩:=L5.at G.b (x:=y5) (by rw [qx];simp);obtain rfl:a5=2:=by omega
  have hv5:z5.a.res.val=2:=by rw [P5];show y5.res.val=2;rw [(T9 A0).1,HZ];exact G.e2
  have wo:z5.a.base=2:=by rw [P5];show y5.base=2;rw [qb];rfl
  refine Zm Y<|Zd Y V<|Zd Y V<|Ze (Al Ly #[_,_,_,_,_,_,_,_,_,_,_,_,_,_,_])<|AG fun bd=>Xe (Xw LL z5.A96)<|AW Y<|Zn [3,5,9,10,11,12,13,14,15,17,18,19,21,22,24,25] ?_;refine Zx<|A1<|Zm Y<|Zm Y<|Aj (t:=133) Y V (fun g1=>?_) (fun g1=>?_);·
   refine Zf Y Y<|Zv (AX Y Y)<|Zm Y<|Aj (t:=136) Y V (fun g2=>?_) (fun g2=>?_);·
    refine Yf 7 ID V rfl B9 Y<|Yg (Ap (off:=1) DS V rfl AE Y)<|Yl AH Y<|Yg (CO Y Y)<|Zv (AX Y Y)<|Zm Y<|Ao (t:=142) Y V (fun g3=>?_) (fun g3=>?_);·
     refine Yf 11 ID V rfl AE Y<|Yl AH Y<|Yg (CO Y Y)<|Zv (AX Y Y)<|Zm Y<|Ao (t:=147) Y V (fun g4=>?_) (fun g4=>?_);·
      refine Zf Y Y<|Yg (Cj (n:=0) Y Y)<|Zv (AX Y Y)<|Zm Y<|Ao (t:=151) Y V (fun g5=>?_) (fun g5=>?_);·
       refine Zf Y Y<|Yg (Ab DH Y)<|Yg (Cj (n:=1) Y Y)<|Zv (AX Y Y)<|Zm Y<|Ao (t:=156) Y V (fun g6=>?_) (fun g6=>?_);·
        refine Zf Y Y<|Gx Y (BU (j:=0) DH Fk Y Y de) rfl rfl ?_;refine Yl HO Y (hv:=by exact y9)<|Zf Y Y<|Yg (mV Y Y)<|Zv (AX Y Y)<|AW Y<|Zn [5,14,15,17,18,19,21,22,24,25,26] ?_;refine Zx<|A1<|Zm Y<|Zm Y<|Aj (t:=164) Y V (fun g8=>?_) (fun g8=>?_);·
         refine Yf 7 ID V rfl B9 Y<|Yg (Ap (off:=1) DS V rfl AE Y)<|Yl AH Y<|Yg (CO Y Y)<|Zv (AX Y Y)<|Zm Y<|Ao (t:=170) Y V (fun g9=>?_) (fun g9=>?_);·
          refine Yf 10 ID V rfl AE Y<|Yl AH Y<|Yg (CO Y Y)<|Zv (AX Y Y)<|Zm Y<|Ao (t:=175) Y V (fun ve=>?_) (fun ve=>?_);·
           refine Yf 14 ID V rfl SZ Y<|Yl isAgg25 Y<|Yg (Ab HA Y)<|Yg (Cj (n:=1) Y Y)<|Zv (AX Y Y)<|Zm Y<|Ao (t:=181) Y V (fun vo=>?_) (fun vo=>?_);·
            refine Zf Y Y<|Yg (Cj (n:=180) Y Y)<|Zv (AX Y Y)<|AW Y<|Zn [5,18,19,21,22,24,25,26,27] ?_;refine Zx<|A1<|Zm Y<|Zm Y<|Ao (t:=186) Y V (fun m1=>?_) (fun m1=>?_);·
             refine Zf Y Y<|Zv (AX Y Y)<|Zm Y<|Ao (t:=189) Y V (fun m2=>?_) (fun m2=>?_);·
              refine Zf Y Y<|Zv (AX Y Y)<|Zm Y<|Ao (t:=192) Y V (fun m3=>?_) (fun m3=>?_);·
               refine Zf Y Y<|Zv (AX Y Y)<|Zm Y<|Aj (t:=195) Y V (fun m4=>?_) (fun m4=>?_);·
                refine Zf Y Y<|Yg (Br Y)<|Zv (AX Y Y)<|Zm Y<|Aj (t:=199) Y V (fun m5=>?_) (fun m5=>?_);·
                 refine Zf Y Y<|Yg (Ab DH Y)<|Yg (Cj (n:=0) Y Y)<|Zv (AX Y Y)<|Zm Y<|Ao (t:=204) Y V (fun m6=>?_) (fun m6=>?_);·
                  refine Zf Y Y<|Zv (AX Y Y)<|Zm Y<|Aj (t:=207) Y V (fun m7=>?_) (fun m7=>?_);·
                   refine Yf 7 ID V rfl B9 Y<|Yg (Ap (off:=1) DS V rfl AE Y)<|Yl AH Y<|Yg (CO Y Y)<|Zv (AX Y Y)<|Zm Y<|Ao (t:=213) Y V (fun m8=>?_) (fun m8=>?_);·
                    refine Yf 12 ID V rfl AE Y<|Yl AH Y<|Yg (CO Y Y)<|Zv (AX Y Y)<|Zm Y<|Ao (t:=218) Y V (fun m9=>?_) (fun m9=>?_);·
                     refine Zf Y Y<|Xr [_,_] Y call12 Y rfl (wk (k:=0) L5.ok.tookb (by rw [pg];decide)) ?_;rw [xI L5.ok.tookb pg qx (fun e he=>MK e (g.PL e he))];refine Yg (Cj (n:=1) Y Y)<|Zv (AX Y Y)<|AW Y<|Zn [0] ?_;refine Zx<|AJ<|AP V results5 Y (by exact ⟨V,V⟩)
                    exact absurd wo m9
                   exact absurd hv5 m8
                  cases m7
                 exact absurd V m6
                cases m5
               cases m4
              exact absurd V m3
             exact absurd V m2
            exact absurd V m1
           exact absurd hn2 vo
          exact absurd hs2 ve
         exact absurd hv2 g9
        cases g8
       exact absurd V g6
      exact absurd V g5
     exact absurd hu1 g4
    exact absurd hv1 g3
   cases g2
  cases g1
 exact absurd V k4
def MV(z:Int):Nat:=if z<0 then(-(z+1)).toNat else z.toNat
theorem kT{z:Int}(h:z<0):(-(z+1)).toNat=MV z:=(As h).symm
theorem kS{z:Int}(h:¬z<0):z.toNat=MV z:=(An h).symm
def uq(had:Bool)(m:Nat):Bool:=!had||decide (0<m%4)
def yk(m:Nat):V3:=⟨((m/4%10:Nat):Int),((1+m/40%9:Nat):Int),((m/400%40:Nat):Int) -20⟩
def kN(gr:AU×Bool)(n m:Nat):Chg:=⟨((n%3:Nat):Int),((1+n/3%9:Nat):Int),gr.2,gr.1.v,uq gr.2 m,if uq gr.2 m then yk m else V3.zero⟩
def Qy(rs:List AU)(n m:Nat):Chg:=kN (Fz rs ((n%3:Nat):Int) ((1+n/3%9:Nat):Int)) n m
def SL(c y:Chg):Bool:=decide (y.t=c.t/\y.k=c.k)
def FQ(cs:List Chg)(c:Chg)(k n:Nat):Prop:=cs.any (SL c)=true\/(c.had=true/\c.has=true/\c.o=c.n)\/(0<k/\n%5=0)
instance(cs:List Chg)(c:Chg)(k n:Nat):Decidable (FQ cs c k n):=inferInstanceAs(Decidable (_\/_))
def MO(c y:Chg):Prop:=c.t<y.t\/y.t=c.t/\c.k<y.k
instance(c y:Chg):Decidable (MO c y):=inferInstanceAs(Decidable (_\/_))
def Q9(cs:List Chg)(c:Chg):Nat->Nat
 |0=>0
 |j+1=>match cs[j]?with
  |some y=>if MO c y then Q9 cs c j else j+1
  |none=>j+1
variable{cs:List Chg}{j:Nat}
theorem Yx{y:Chg}(h0:0<j)(g:cs[j -1]?=some y)(h:MO c y):Q9 cs c j=Q9 cs c (j -1):=by
 obtain ⟨k,rfl⟩:∃k,j=k+1:=⟨j -1,by omega⟩;rw [S2]at g⊢;rw [Q9,g];exact As h
theorem Yv{y:Chg}(h0:0<j)(g:cs[j -1]?=some y)(h:¬MO c y):Q9 cs c j=j:=by
 obtain ⟨k,rfl⟩:∃k,j=k+1:=⟨j -1,by omega⟩;rw [S2]at g;rw [Q9,g];exact An h
theorem sU(h0:¬0<j):Q9 cs c j=j:=by
 obtain rfl:j=0:=by omega
 rfl
noncomputable def VK(rs:List AU)(z:List Int)(k:Nat)(cs:List Chg):List Chg:=
 if FQ cs (Qy rs (MV (z.getD (2*k) 0)) (MV (z.getD (2*k+1) 0))) k (MV (z.getD (2*k) 0))then cs
 else cs.take (Q9 cs (Qy rs (MV (z.getD (2*k) 0)) (MV (z.getD (2*k+1) 0))) cs.length)++[Qy rs (MV (z.getD (2*k) 0)) (MV (z.getD (2*k+1) 0))]++cs.drop (Q9 cs (Qy rs (MV (z.getD (2*k) 0)) (MV (z.getD (2*k+1) 0))) cs.length)
noncomputable def GR(rs:List AU)(z:List Int):Nat->List Chg
 |0=>[]
 |k+1=>VK rs z k (GR rs z k)
variable{z:List Int}{i:Nat}
theorem Rh{n:Int}(h:z[i]?=some n):z.getD i 0=n:=by rw [N5,h];rfl
theorem KT{rs:List AU}{k n m:Nat}{B G:Int}(g:cs=GR rs z k)(I:z[2*k]?=some B)(J:z[2*k+1]?=some G)(O:n=MV B)(K:m=MV G)(hc:c=Qy rs n m)(h:FQ cs c k n):cs=GR rs z (k+1):=by
 subst O K hc;show _=VK rs z k (GR rs z k)
 unfold VK;rw [Rh I,Rh J,<-g,As h]
theorem vY{rs:List AU}{k n m:Nat}{B G:Int}(g:cs=GR rs z k)(I:z[2*k]?=some B)(J:z[2*k+1]?=some G)(U:n=MV B)(O:m=MV G)(hc:c=Qy rs n m)(h:¬FQ cs c k n)(K:Q9 cs c cs.length=j):cs.take j++[c]++cs.drop j=GR rs z (k+1):=by
 subst U O hc K;show _=VK rs z k (GR rs z k)
 unfold VK;rw [Rh I,Rh J,<-g,An h]
def YZ(L:List (List Chg)):List AU:=L.foldl DL []
theorem YY(l:List BR):YZ (l.map BR.cs)=BQ l:=by unfold YZ BQ;rw [List.foldl_map]
noncomputable instance(rs:List AU)(p q:Int)(cs:List Chg):Decidable (KZ rs p q cs):=Classical.propDecidable _
noncomputable def Ms(L:List (List Chg))(z:List Int):List (List Chg):=
 if KZ (YZ L) (L.length:Int) ((L.length:Int)+1) (GR (YZ L) z 3)then L++[GR (YZ L) z 3]else L
noncomputable def TY(xs:List (List Int)):List (List Chg):=xs.foldl Ms []
variable{xs:List (List Int)}
theorem Vv(hz:xs[i]?=some z):TY (xs.take (i+1))=Ms (TY (xs.take i)) z:=by
 unfold TY;rw [NX,hz,cD];rfl
theorem yB{g:List BR}{r:BR}(hz:xs[i]?=some z)(m:g.map BR.cs=TY (xs.take i))(hc:r.cs=GR (BQ g) z 3)(h:KZ (BQ g) (g.length:Int) ((g.length:Int)+1) r.cs):(g++[r]).map BR.cs=TY (xs.take (i+1)):=by
 rw [Vv hz,<-m];unfold Ms;rw [YY,B6,<-hc,As h,C0];rfl
theorem tr{g:List BR}(hz:xs[i]?=some z)(m:g.map BR.cs=TY (xs.take i))(hc:cs=GR (BQ g) z 3)(h:¬KZ (BQ g) (g.length:Int) ((g.length:Int)+1) cs):g.map BR.cs=TY (xs.take (i+1)):=by
 rw [Vv hz,<-m];unfold Ms;rw [YY,B6,<-hc,An h]
theorem vc{p:Chg->Bool}{x:Chg}(g:cs[i]?=some x):(cs.take (i+1)).any p=((cs.take i).any p||p x):=by
 rw [NX,g,List.any_append];simp
theorem Y5{p:Chg->Bool}{x:Chg}{b g:Bool}(B:cs[i]?=some x)(m:b=(cs.take i).any p)(h:g=(b||p x)):g=(cs.take (i+1)).any p:=by
 rw [vc B,<-m,h]
set_option maxHeartbeats 4000000 in
theorem xZ{M:List A9}{v:A4}(hX:Wd M v xs)(hx:xs.length<=1000):BS prog 6 #[v] [M] (fun r H'=>∃(l:List BR) (s:List A9),En l/\l.length<=xs.length/\l.map BR.cs=TY xs/\Ee s r l/\H'=[s,M]):=by
 have MP:=mL;obtain ⟨px,HZ,rfl,P7,zy⟩:=id hX;refine Se func6 ntmps6 [0] ?_;intro u R;refine A1<|A5 Y<|A1<|A5 Y<|A1<|Zc [] Y call23 Y V (tU) ?_;rintro _ _ ⟨_,⟨sp,rfl,rfl⟩,rfl⟩;refine A5 Y<|Zq<|A1<|A5 Y<|AR<|Be<|Be<|Be<|Zb [3,5,0,4] ?_;refine BF (e0:=[(3,_),(5,_)]) (fun m e H=>∃(i:Nat) (B:List BR) (w wo:A4) (sv so MM:List A9),m=xs.length -i/\(i<=xs.length/\En B/\B.length<=i/\Bc 5 80 w (BQ B).length (Ae (BQ B)) sv/\Bc 2 57 wo B.length (Dv B) so/\(∀r∈B,Cv MM (.slice r.q r.cs.length r.cap) r.cs)/\B.map BR.cs=TY (xs.take i))/\e=[(3,wo),(5,I0 (i:Int))]/\H=[[(sp,.cells #[w,I0 (B.length:Int)] 84 (0,0))],sv,so,MM]) (by exact ⟨0,[],.slice none 0 0,.slice none 0 0,[],[],[],V,⟨C7 _,(by intro i r h;cases h),CT _,Bi 5 _,Bi 2 _,by simp,V⟩,V,V⟩) Wp ?_;rintro _ _ _ ⟨i,B,w,wo,sv,so,MM,rfl,⟨hi,bn,P6,j5,j3,p8,o9⟩,rfl,rfl⟩;obtain ⟨qw,ql,rfl⟩:=j5.form;obtain ⟨qo,Hf,rfl⟩:=j3.form;obtain ⟨zf,Gw⟩:=bn.all;have zk:=Pw j5 A0
 refine Zq<|A1<|Zm Y<|Zm Y<|Zv (Ab eN Y)<|Zv (Ay Y Y)<|A6<|Av Y (fun vo=>?_) (fun vo=>?_);·
  obtain ⟨z,qb⟩:∃z,xs[i]?=some z:=⟨_,BT vo⟩;obtain ⟨h6,o8,g,off,cur,T,zz,rfl,hm,sw⟩:=zy i z qb;refine AC<|Zx<|Zq<|AR<|A1<|A5 Y<|Zq<|A1<|A5 Y<|AR<|Be<|Zb [6,7,0,3,4,5] ?_;refine BF (e0:=[(6,_),(7,_)]) (fun m e H=>∃(k:Nat) (w2:A4) (cs:List Chg) (sl:List A9),m=3 -k/\(k<=3/\cs.length<=k/\Bc 10 74 w2 cs.length (Co cs) sl/\cs=GR (BQ B) z k)/\e=[(6,w2),(7,I0 (k:Int))]/\H=[sl]) (by exact ⟨0,.slice none 0 0,[],[],V,⟨C7 _,CT _,Bi 10 _,V⟩,V,V⟩) Wp ?_;rintro _ _ _ ⟨k,w2,cs,sl,rfl,⟨MJ,MC,G,Z⟩,rfl,rfl⟩;obtain ⟨gw,cw,rfl⟩:=G.form;have ME:=F5 G
  refine Zq<|A1<|Zm Y<|Zv (Ay (n:=3) Y Y)<|A6<|Av Y (fun hk=>?_) (fun hk=>?_);·
   obtain ⟨za,W⟩:∃n,z[2*k]?=some n:=⟨_,BT A0⟩;obtain ⟨zb,X⟩:∃n,z[2*k+1]?=some n:=⟨_,BT A0⟩;have MS:=o8 za (DO W)
   have P5:=o8 zb (DO X);have zm:=sw _ _ W
   have zt:=sw _ _ X;refine AC<|Zx<|Zq<|AR<|A1<|Zm Y<|Zm Y<|Zm Y<|BZ (FC (m:=2) Y Y A0)<|BZ (Ad eN sizeOf78 Y Y A0)<|BZ (Cu underlying78 AE Y Y A0)<|CS (cs:=[(g,.cells cur T zz)]) (by simp [hm]) (BD AH Y (by(rw [N0];exact zm))) V rfl<|A5 Y<|Zb [8,0,3,4,5,6,7] ?_;refine Ch (e0:=[(8,_)]) (H0:=[]) (fun e H=>∃(n:Nat),(n<=9223372036854775807/\n=MV za)/\e=[(8,I0 (n:Int))]/\H=[]) Wp ?hx_3 ?hy_3
   case hx_3=>
    refine A1<|Zm Y<|Zv (EI Y Y)<|A6<|Av Y (fun E9=>?_) (fun E9=>?_);·
     refine Zg<|Zm Y<|Yi Y Y ?_;refine BZ (jd Y (IntWalk.i64_in _ A0))<|AW Y<|Zn [8,0,3,4,5,6,7] ?_;refine BB (e':=[(8,_)]) (by exact ⟨(-(za+1)).toNat,⟨by omega,kT A0⟩,by rw [show(((-(za+1)).toNat:Nat):Int)=0 -(za+1) by omega],rfl⟩)
    refine AC<|Zn [8,0,3,4,5,6,7] ?_;refine BB (e':=[(8,_)]) (by exact ⟨za.toNat,⟨by omega,kS A0⟩,by rw [show((za.toNat:Nat):Int)=za by omega],rfl⟩)
   rintro _ _ ⟨n,⟨hn,dn⟩,rfl,rfl⟩;refine A1<|Zm Y<|Zm Y<|Zm Y<|BZ (FC (m:=2) Y Y A0)<|Ya (n:=1) Y Y ?_;refine BZ (Ad eN sizeOf78 Y Y A0)<|BZ (Cu underlying78 AE Y Y A0)<|CS (cs:=[(g,.cells cur T zz)]) (by simp [hm]) (BD AH Y (by(rw [N0];exact zt))) V rfl<|A5 Y<|Zb [9,0,3,4,5,6,7,8] ?_;refine Ch (e0:=[(9,_)]) (H0:=[]) (fun e H=>∃(m:Nat),(m<=9223372036854775807/\m=MV zb)/\e=[(9,I0 (m:Int))]/\H=[]) Wp ?hx_6 ?hy_6
   case hx_6=>
    refine A1<|Zm Y<|Zv (EI Y Y)<|A6<|Av Y (fun FT=>?_) (fun FT=>?_);·
     refine Zg<|Zm Y<|Yi Y Y ?_;refine BZ (jd Y (IntWalk.i64_in _ A0))<|AW Y<|Zn [9,0,3,4,5,6,7,8] ?_;refine BB (e':=[(9,_)]) (by exact ⟨(-(zb+1)).toNat,⟨by omega,kT A0⟩,by rw [show(((-(zb+1)).toNat:Nat):Int)=0 -(zb+1) by omega],rfl⟩)
    refine AC<|Zn [9,0,3,4,5,6,7,8] ?_;refine BB (e':=[(9,_)]) (by exact ⟨zb.toNat,⟨by omega,kS A0⟩,by rw [show((zb.toNat:Nat):Int)=zb by omega],rfl⟩)
   rintro _ _ ⟨m,⟨MK,d9⟩,rfl,rfl⟩;refine A1<|Zm Y<|BZ (FZ (n:=3) Y Y A0)<|Zm Y<|BZ (KH (n:=3) Y Y A0 A0)<|BZ (FZ (n:=9) Y Y A0)<|Ya (m:=1) Y Y<|Zv (BM (vs:=[(0,_),(1,_)]) (cs:=#[_,_,_,_,_,_,_,_,_,_]) Y (AZ (pl:=#[(0,1),(1,1),(2,1),(3,3),(6,1),(7,3)]) Lw C3 (fun _=>by kernel_rfl) V))<|Ze (Al Lw #[_,_,_,_,_,_,_,_,_,_])<|AG fun cb=>Xe (BL CA Y Y (by(simp [Value.oneCell',Value.cells];done)) Wu (by exact (rfl:_=(#[I0 ((n%3:Nat):Int),I0 ((1+n/3%9:Nat):Int),.bool false,I0 0,I0 0,I0 0,.bool false,I0 0,I0 0,I0 0]:AM))) Fi (by exact CT _) (by exact BC _))<|A6<|A1<|Zm Y<|Zh 0 C3 rfl rfl AE Y<|Zl AH Y<|Zh 1 C3 rfl rfl AE Y<|Zl AH Y<|Xr [_,_,_] Y call24 Y rfl (rf sp qw ql (B.length:Int) ((n%3:Nat):Int) ((1+n/3%9:Nat):Int) (BQ B) sv zk A0 zf) ?_;obtain ⟨K,sJ⟩:∃K,K=Fz (BQ B) ((n%3:Nat):Int) ((1+n/3%9:Nat):Int):=⟨_,rfl⟩;rw [<-sJ];refine Zm Y<|Zd Y V<|Zd Y V<|Ze (Al EV #[_,_,_,_,_])<|AG fun ob=>Xe (Xw B3 #[I0 K.1.t,I0 K.1.k,I0 K.1.v.a,I0 K.1.v.b,I0 K.1.v.c])<|AW Y<|Zn [0,3,4,5,6,7,8,9,10,11,12] ?_;refine Zx<|A1<|Zm Y<|Zh 2 C3 rfl rfl DM Y<|Xe (Zs DM Y Y rfl (hc:=by exact (rfl:_=(#[I0 ((n%3:Nat):Int),I0 ((1+n/3%9:Nat):Int),.bool K.2,I0 0,I0 0,I0 0,.bool false,I0 0,I0 0,I0 0]:AM))) (hi:=by(simp;done)))<|A6<|A1<|Zh 2 Fo rfl rfl E0 Y<|Zo Wh (Pa #[_,_,_] HM E0 Y)<|Zh 3 C3 rfl rfl E0 Y<|Xe (BL E0 Y Y Hi Wu (by exact (rfl:_=(#[I0 ((n%3:Nat):Int),I0 ((1+n/3%9:Nat):Int),.bool K.2,I0 K.1.v.a,I0 K.1.v.b,I0 K.1.v.c,.bool false,I0 0,I0 0,I0 0]:AM))) Fi B5 (by exact BC _))<|A6<|Zb [12,0,3,4,5,6,7,8,9,10] ?_;refine Ch (e0:=[(12,_)]) (H0:=[[(cb,.cells #[I0 ((n%3:Nat):Int),I0 ((1+n/3%9:Nat):Int),.bool K.2,I0 K.1.v.a,I0 K.1.v.b,I0 K.1.v.c,.bool false,I0 0,I0 0,I0 0] 74 (0,0))]]) (fun e H=>∃(hb:Bool),(hb=uq K.2 m)/\e=[]/\H=[[(cb,.cells #[I0 ((n%3:Nat):Int),I0 ((1+n/3%9:Nat):Int),.bool K.2,I0 K.1.v.a,I0 K.1.v.b,I0 K.1.v.c,.bool hb,I0 0,I0 0,I0 0] 74 (0,0))]]) Wp ?hx_9 ?hy_9
   case hx_9=>
    refine Zg<|Zm Y<|Zv (Br Y)<|Zm Y<|Aj (t:=77) Y V (fun hh=>?_) (fun hh=>?_);·
     refine A7 Y V<|A7 Y V<|A7 Y V<|Zv (AX Y Y)<|Zh 6 C3 V rfl DM Y<|Xe (Zs DM Y Y V (hi:=by(simp;done)))<|Z0<|Zn [0,3,4,5,6,7,8,9,10] ?_;refine BB (e':=[]) (H':=[[(cb,.cells #[_,_,_,_,_,_,_,_,_,_] 74 (0,0))]]) ?_;exact ⟨_,by unfold uq;(rw [hh];rfl),V,V⟩
    refine Zf Y Y<|Gx Y (FZ (n:=4) Y Y A0) V rfl ?_;refine Yg (DN (n:=0) Y Y)<|Zv (AL Y Y)<|Zh 6 C3 V rfl DM Y<|Xe (Zs DM Y Y V (hi:=by(simp;done)))<|Z0<|Zn [0,3,4,5,6,7,8,9,10] ?_;refine BB (e':=[]) (H':=[[(cb,.cells #[_,_,_,_,_,_,_,_,_,_] 74 (0,0))]]) ?_;exact ⟨_,by unfold uq;(rw [hh];rfl),V,V⟩
   rintro _ _ ⟨hb,r9,rfl,rfl⟩;refine Zb [9,0,3,4,5,6,7,8,10] ?_;refine Ch (e0:=[(9,_)]) (H0:=[[(cb,.cells #[I0 ((n%3:Nat):Int),I0 ((1+n/3%9:Nat):Int),.bool K.2,I0 K.1.v.a,I0 K.1.v.b,I0 K.1.v.c,.bool hb,I0 0,I0 0,I0 0] 74 (0,0))]]) (fun e H=>∃(c:Chg),(c=kN K n m)/\e=[]/\H=[[(cb,.cells c.A93 74 (0,0))]]) Wp ?hx_10 ?hy_10
   case hx_10=>
    refine A1<|Zh 6 C3 V rfl DM Y<|Zl Fc Y<|A6<|AQ Y (fun p9=>?_) (fun p9=>?_);·
     refine Zg<|Zm Y<|BZ (KH (n:=4) Y Y A0 A0)<|BZ (FZ (n:=10) Y Y A0)<|Zm Y<|BZ (KH (n:=40) Y Y A0 A0)<|BZ (FZ (n:=9) Y Y A0)<|Ya (m:=1) Y Y<|Zm Y<|BZ (KH (n:=400) Y Y A0 A0)<|BZ (FZ (n:=40) Y Y A0)<|BZ (FU Y Y (IntWalk.i64_in _ A0))<|Zv (BM (vs:=[(0,_),(1,_),(2,_)]) (cs:=#[_,_,_]) Y (DZ cW I3 AE rfl))<|Zh 7 C3 rfl rfl E0 Y<|Xe (BL E0 Y Y (by(simp [Value.oneCell',Value.cells];done)) Wu Ax Fi (by exact CT _) (by exact BC _))<|Z0<|Zn [0,3,4,5,6,7,8,10] ?_;refine BB (e':=[]) (H':=[[(cb,.cells #[_,_,_,_,_,_,_,_,_,_] 74 (0,0))]]) ?_;exact ⟨⟨_,_,_,K.1.v,_,⟨_,_,_⟩⟩,by unfold kN;(rw [<-r9,As p9];rfl),V,V⟩
    refine AC<|Zn [0,3,4,5,6,7,8,10] ?_;refine BB (e':=[]) (H':=[[(cb,.cells #[_,_,_,_,_,_,_,_,_,_] 74 (0,0))]]) ?_;exact ⟨⟨_,_,_,K.1.v,_,⟨_,_,_⟩⟩,by unfold kN;(rw [<-r9,p9];rfl),V,V⟩
   rintro _ _ ⟨c,sj,rfl,rfl⟩;have cu:c=Qy (BQ B) n m:=by rw [sj,sJ];rfl
   refine A1<|A5 Y<|Zq<|A1<|A5 Y<|AR<|Zb [13,14,0,3,4,5,6,7,8,10] ?_;refine BF (e0:=[(13,_),(14,_)]) (fun m e H=>∃(j:Nat) (b:Bool),m=cs.length -j/\(j<=cs.length/\b=(cs.take j).any (SL c))/\e=[(13,.bool b),(14,I0 (j:Int))]/\H=[]) (by exact ⟨0,false,V,⟨C7 _,V⟩,V,V⟩) Wp ?_;rintro _ _ _ ⟨j,b,rfl,⟨hj,I⟩,rfl,rfl⟩;refine Zq<|A1<|Zm Y<|Zm Y<|Zv (Ab Gk Y)<|Zv (Ay Y Y)<|A6<|Av Y (fun sM=>?_) (fun sM=>?_);·
    refine AC<|Zx<|Zq<|AR ?_;obtain ⟨y,hy⟩:∃y,cs[j]?=some y:=⟨_,BT sM⟩;obtain ⟨gl,qj,qx,zl,q9,pz,ve,gm⟩:=E5 G A0;injection q9 with hv1 hv2 hv3
    subst hv1 pz;obtain ⟨kv,qa⟩:=vk gm hy;refine Aw (n:=22) (0::1::3::3::15::31::63::3::131::511::1023::2047::2047::8191::16383::32767::2047::67583::262143::524287::1048575::2097151::[]) 0 AF AF V<|A3 0 V (AO Y)<|A3 1 V (AO Y)<|Ce (t:=105) Y (fun af=>?_) (fun af=>?_);·
     rw [af];refine AN 2 V<|AN 3 V<|AN 4 V<|AN 5 V<|AN 6 V<|AN 7 V<|AN 8 V<|AN 9 V<|AN 10 V<|AN 11 V<|AN 12 V<|AN 13 V<|AN 14 V<|AN 15 V<|AN 16 V<|AN 17 V<|AN 18 V<|AN 19 V<|A3 20 V (AX Y Y)<|A3 21 V (Aq Y)<|Ag<|Zn [0,3,4,5,6,7,8,10,13,14] ?_;refine A8<|Zx<|Zg<|Zm Y<|Ya (n:=1) Y Y<|AW Y<|Zn [13,14,0,3,4,5,6,7,8,10] ?_;refine Aa (e':=[(13,_),(14,_)]) (by exact ⟨j+1,_,V,⟨by omega,Y5 hy I (by unfold SL;(simp_all;done))⟩,V,V⟩)
    rw [af];refine B1 2 V (AO Y)<|B1 3 V (AO Y)<|B1 4 V (Ad Gk CA Y Y A0)<|B1 5 V (Ap (off:=0) C3 V rfl AE Y)<|DP 6 V Wh (BD AH Y (by simpa using kv))<|B1 7 V (AA (off:=0) C3 V rfl AE Y)<|DP 8 V Wh (BD AH Y Ax)<|B1 9 V (CO Y Y)<|B1 10 V (AO Y)<|DD (t:=114) Y (fun af=>?_) (fun af=>?_);·
     rw [D2 af];refine B1 11 V (AO Y)<|B1 12 V (AO Y)<|B1 13 V (Ad Gk CA Y Y A0)<|B1 14 V (Ap (off:=1) C3 V rfl AE Y)<|DP 15 V Wh (BD AH Y (by simpa using qa))<|B1 16 V (AA (off:=1) C3 V rfl AE Y)<|DP 17 V Wh (BD AH Y Ax)<|B1 18 V (CO Y Y)<|B1 19 V (AX Y Y)<|A3 20 V (AL Y Y)<|A3 21 V (Aq Y)<|Ag<|Zn [0,3,4,5,6,7,8,10,13,14] ?_;refine A8<|Zx<|Zg<|Zm Y<|Ya (n:=1) Y Y<|AW Y<|Zn [13,14,0,3,4,5,6,7,8,10] ?_;refine Aa (e':=[(13,_),(14,_)]) (by exact ⟨j+1,_,V,⟨by omega,Y5 hy I (by unfold SL;(simp_all;done))⟩,V,V⟩)
    rw [Cl af];refine AN 11 V<|AN 12 V<|AN 13 V<|AN 14 V<|AN 15 V<|AN 16 V<|AN 17 V<|AN 18 V<|B1 19 V (AL Y Y)<|A3 20 V (AL Y Y)<|A3 21 V (Aq Y)<|Ag<|Zn [0,3,4,5,6,7,8,10,13,14] ?_;refine A8<|Zx<|Zg<|Zm Y<|Ya (n:=1) Y Y<|AW Y<|Zn [13,14,0,3,4,5,6,7,8,10] ?_;refine Aa (e':=[(13,_),(14,_)]) (by exact ⟨j+1,_,V,⟨by omega,Y5 hy I (by unfold SL;(simp_all;done))⟩,V,V⟩)
   have ej:j=cs.length:=by omega
   subst ej;rw [GC]at I;refine Az<|Zt<|Zt<|AV<|Zx<|Zb [8,13,0,3,4,5,6,7,10] ?_;refine Ch (e0:=[(8,_),(13,_)]) (H0:=[]) (fun e H=>(¬FQ cs c k n)/\e=[]/\H=[]) Wp ?hx_15 ?hy_15
   case hx_15=>
    refine A1<|Zm Y<|Zm Y<|Aj (t:=126) Y V (fun O=>?_) (fun O=>?_);·
     refine A7 Y V<|A7 Y V<|A7 Y V<|A7 Y V<|A7 Y V<|A7 Y V<|A7 Y V<|A7 Y V<|A7 Y V<|A7 Y V<|A7 Y V<|A7 Y V<|A7 Y V<|Zv (AX Y Y)<|Zm Y<|A7 Y V<|A7 Y V<|A7 Y V<|A7 Y V<|A7 Y V<|A7 Y V<|A7 Y V<|Zv (AX Y Y)<|Z0<|Zn [0,3,4,5,6,7,10,149] ?_;refine Zx<|DR Y<|Az<|Zt<|AV<|Zx<|Zg<|Zm Y<|Ya (n:=1) Y Y<|AW Y<|Zn [6,7,0,3,4,5] ?_;refine Aa (e':=[(6,_),(7,_)]) (by exact ⟨k+1,_,cs,sl,rfl,⟨by omega,by omega,G,KT Z W X dn d9 cu (by first|exact J|(unfold FQ;rw [<-I];first|(simp_all;done)|(simp_all;omega)))⟩,rfl,rfl⟩)
    refine Yf 2 C3 V rfl DM Y<|Yl Fc Y<|Zf Y Y<|Aj (t:=129) Y V (fun O=>?_) (fun O=>?_);·
     refine Yf 6 C3 V rfl DM Y<|Yl Fc Y<|Yg (AX Y Y)<|Zf Y Y<|Aj (t:=133) Y V (fun O=>?_) (fun O=>?_);·
      refine Yf 3 C3 V rfl E0 Y<|Dt Y Wh (AB (cs:=#[_,_,_]) HM E0 Y B5 Ax) V rfl<|Yf 7 C3 V rfl E0 Y<|Dt Y Wh (Pa #[_,_,_] HM E0 Y) V rfl<|Yg (Kq AF I3 DE AH AE Y Y) ?_;refine Yg (AX Y Y)<|Zv (AL Y Y)<|Zm Y<|Ao (t:=141) Y V (fun O=>?_) (fun O=>?_);·
       refine A7 Y V<|A7 Y V<|A7 Y V<|A7 Y V<|A7 Y V<|A7 Y V<|A7 Y V<|Zv (AX Y Y)<|Z0<|Zn [0,3,4,5,6,7,10,149] ?_;refine Zx<|DR Y<|Az<|Zt<|AV<|Zx<|Zg<|Zm Y<|Ya (n:=1) Y Y<|AW Y<|Zn [6,7,0,3,4,5] ?_;refine Aa (e':=[(6,_),(7,_)]) (by exact ⟨k+1,_,cs,sl,rfl,⟨by omega,by omega,G,KT Z W X dn d9 cu (by first|exact J|(unfold FQ;rw [<-I];first|(simp_all;done)|(simp_all;omega)))⟩,rfl,rfl⟩)
      refine Zf Y Y<|Yg (DN (n:=0) Y Y)<|Zf Y Y<|Ao (t:=144) Y V (fun O=>?_) (fun O=>?_);·
       refine Zf Y Y<|Gx Y (FZ (n:=5) Y Y A0) V rfl ?_;refine Yg (Cj (n:=0) Y Y)<|Yg (AX Y Y)<|Zv (AL Y Y)<|Z0<|Zn [0,3,4,5,6,7,10,149] ?_;refine Zx<|Av Y (fun ek=>?_) (fun ek=>?_);·
        have J:FQ cs c k n:=by unfold FQ;rw [<-I];(simp_all;done)
        refine Az<|Zt<|AV<|Zx<|Zg<|Zm Y<|Ya (n:=1) Y Y<|AW Y<|Zn [6,7,0,3,4,5] ?_;refine Aa (e':=[(6,_),(7,_)]) (by exact ⟨k+1,_,cs,sl,rfl,⟨by omega,by omega,G,KT Z W X dn d9 cu (by first|exact J|(unfold FQ;rw [<-I];first|(simp_all;done)|(simp_all;omega)))⟩,rfl,rfl⟩)
       have J:¬FQ cs c k n:=by unfold FQ;rw [<-I];(simp_all;done)
       refine AC<|Zn [0,3,4,5,6,7,10] ?_;refine BB (e':=[]) (by exact ⟨(by exact J),V,V⟩)
      refine A7 Y V<|A7 Y V<|A7 Y V<|Yg (AL Y Y)<|Zv (AL Y Y)<|Z0<|Zn [0,3,4,5,6,7,10,149] ?_;refine Zx<|DI Y<|AC<|Zn [0,3,4,5,6,7,10] ?_;refine BB (e':=[]) (by exact ⟨(by(unfold FQ;rw [<-I];first|(simp_all;done)|(simp_all;omega))),rfl,rfl⟩)
     refine A7 Y V<|A7 Y V<|A7 Y V<|A7 Y V<|A7 Y V<|Yg (AL Y Y)<|Zv (AL Y Y)<|Zm Y<|Zf Y Y<|Yg (DN (n:=0) Y Y)<|Zf Y Y<|Ao (t:=144) Y V (fun O=>?_) (fun O=>?_);·
      refine Zf Y Y<|Gx Y (FZ (n:=5) Y Y A0) V rfl ?_;refine Yg (Cj (n:=0) Y Y)<|Yg (AX Y Y)<|Zv (AL Y Y)<|Z0<|Zn [0,3,4,5,6,7,10,149] ?_;refine Zx<|Av Y (fun ek=>?_) (fun ek=>?_);·
       have J:FQ cs c k n:=by unfold FQ;rw [<-I];(simp_all;done)
       refine Az<|Zt<|AV<|Zx<|Zg<|Zm Y<|Ya (n:=1) Y Y<|AW Y<|Zn [6,7,0,3,4,5] ?_;refine Aa (e':=[(6,_),(7,_)]) (by exact ⟨k+1,_,cs,sl,rfl,⟨by omega,by omega,G,KT Z W X dn d9 cu (by first|exact J|(unfold FQ;rw [<-I];first|(simp_all;done)|(simp_all;omega)))⟩,rfl,rfl⟩)
      have J:¬FQ cs c k n:=by unfold FQ;rw [<-I];(simp_all;done)
      refine AC<|Zn [0,3,4,5,6,7,10] ?_;refine BB (e':=[]) (by exact ⟨(by exact J),V,V⟩)
     refine A7 Y V<|A7 Y V<|A7 Y V<|Yg (AL Y Y)<|Zv (AL Y Y)<|Z0<|Zn [0,3,4,5,6,7,10,149] ?_;refine Zx<|DI Y<|AC<|Zn [0,3,4,5,6,7,10] ?_;refine BB (e':=[]) (by exact ⟨(by(unfold FQ;rw [<-I];first|(simp_all;done)|(simp_all;omega))),rfl,rfl⟩)
    refine A7 Y V<|A7 Y V<|Yg (AL Y Y)<|Zf Y Y<|A7 Y V<|A7 Y V<|A7 Y V<|A7 Y V<|A7 Y V<|Yg (AL Y Y)<|Zv (AL Y Y)<|Zm Y<|Zf Y Y<|Yg (DN (n:=0) Y Y)<|Zf Y Y<|Ao (t:=144) Y V (fun O=>?_) (fun O=>?_);·
     refine Zf Y Y<|Gx Y (FZ (n:=5) Y Y A0) V rfl ?_;refine Yg (Cj (n:=0) Y Y)<|Yg (AX Y Y)<|Zv (AL Y Y)<|Z0<|Zn [0,3,4,5,6,7,10,149] ?_;refine Zx<|Av Y (fun ek=>?_) (fun ek=>?_);·
      have J:FQ cs c k n:=by unfold FQ;rw [<-I];(simp_all;done)
      refine Az<|Zt<|AV<|Zx<|Zg<|Zm Y<|Ya (n:=1) Y Y<|AW Y<|Zn [6,7,0,3,4,5] ?_;refine Aa (e':=[(6,_),(7,_)]) (by exact ⟨k+1,_,cs,sl,rfl,⟨by omega,by omega,G,KT Z W X dn d9 cu (by first|exact J|(unfold FQ;rw [<-I];first|(simp_all;done)|(simp_all;omega)))⟩,rfl,rfl⟩)
     have J:¬FQ cs c k n:=by unfold FQ;rw [<-I];(simp_all;done)
     refine AC<|Zn [0,3,4,5,6,7,10] ?_;refine BB (e':=[]) (by exact ⟨(by exact J),V,V⟩)
    refine A7 Y V<|A7 Y V<|A7 Y V<|Yg (AL Y Y)<|Zv (AL Y Y)<|Z0<|Zn [0,3,4,5,6,7,10,149] ?_;refine Zx<|DI Y<|AC<|Zn [0,3,4,5,6,7,10] ?_;refine BB (e':=[]) (by exact ⟨(by(unfold FQ;rw [<-I];first|(simp_all;done)|(simp_all;omega))),rfl,rfl⟩)
   rintro _ _ ⟨J,rfl,rfl⟩;refine A1<|Zm Y<|Zv (Ab Gk Y)<|A5 Y<|Zb [15,0,3,4,5,6,7,10] ?_;refine Ch (e0:=[(15,_)]) (H0:=[]) (fun e H=>∃(j:Nat),(j<=cs.length/\Q9 cs c cs.length=j)/\e=[(15,I0 (j:Int))]/\H=[]) Wp ?hx_27 ?hy_27
   case hx_27=>
    refine AR<|Zb [15,0,3,4,5,6,7,10] ?_;refine BF (e0:=[(15,_)]) (fun m e H=>∃(j:Nat),m=0+j/\(j<=cs.length/\Q9 cs c j=Q9 cs c cs.length)/\e=[(15,I0 (j:Int))]/\H=[]) (by exact ⟨cs.length,V,⟨CT _,V⟩,V,V⟩) Wp ?_;rintro _ _ _ ⟨j,rfl,⟨hj,U⟩,rfl,rfl⟩;refine Zq<|Zq<|Aw (n:=35) (0::1::3::7::7::23::63::127::255::7::519::2047::4095::8191::8191::24575::65535::131071::262143::8191::532479::2097151::4194303::8388607::8388607::25165823::67108863::134217727::268435455::8388607::545259519::2147483647::4294967295::8589934591::17179869183::[]) 0 AF AF V<|A3 0 V (AO Y)<|A3 1 V (DN (n:=0) Y Y)<|A3 2 V (AO Y)<|DD (t:=154) Y (fun gy=>?_) (fun gy=>?_);·
     rw [D2 gy];obtain ⟨y,hy⟩:∃y,cs[j -1]?=some y:=⟨_,BT A0⟩;obtain ⟨gl,qj,qx,zl,q9,pz,ve,gm⟩:=E5 G A0;injection q9 with hv1 hv2 hv3
     subst hv1 pz;obtain ⟨kv,qa⟩:=vk gm hy;refine B1 3 V (AO Y)<|B1 4 V (AO Y)<|B1 5 V (CQ (n:=1) Y Y A0 A0)<|B1 6 V (Ad Gk CA Y Y A0)<|B1 7 V (Ap (off:=0) C3 V rfl AE Y)<|DP 8 V Wh (BD AH Y (by simpa using kv))<|B1 9 V (AA (off:=0) C3 V rfl AE Y)<|DP 10 V Wh (BD AH Y Ax)<|B1 11 V (Ef Y Y)<|B1 12 V (AO Y)<|DD (t:=164) Y (fun ax=>?_) (fun ax=>?_);·
      rw [D2 ax];refine AN 13 V<|AN 14 V<|AN 15 V<|AN 16 V<|AN 17 V<|AN 18 V<|AN 19 V<|AN 20 V<|AN 21 V<|AN 22 V<|AN 23 V<|AN 24 V<|AN 25 V<|AN 26 V<|AN 27 V<|AN 28 V<|AN 29 V<|AN 30 V<|AN 31 V<|AN 32 V<|B1 33 V (AX Y Y)<|A3 34 V (AX Y Y)<|Ag<|Zn [0,3,4,5,6,7,10,15,186] ?_;refine Zx<|DR Y<|AC<|Zx<|AR<|Zg<|Zm Y<|Yb (n:=1) Y Y<|AW Y<|A8<|Zn [15,0,3,4,5,6,7,10] ?_;refine Aa (e':=[(15,_)]) (by exact ⟨j -1,V,⟨by omega,(Yx gy hy (by unfold MO;omega)).symm.trans U⟩,V,V⟩)
     rw [Cl ax];refine B1 13 V (AO Y)<|B1 14 V (AO Y)<|B1 15 V (CQ (n:=1) Y Y A0 A0)<|B1 16 V (Ad Gk CA Y Y A0)<|B1 17 V (Ap (off:=0) C3 V rfl AE Y)<|DP 18 V Wh (BD AH Y (by simpa using kv))<|B1 19 V (AA (off:=0) C3 V rfl AE Y)<|DP 20 V Wh (BD AH Y Ax)<|B1 21 V (CO Y Y)<|B1 22 V (AO Y)<|DD (t:=174) Y (fun ax=>?_) (fun ax=>?_);·
      rw [D2 ax];refine B1 23 V (AO Y)<|B1 24 V (AO Y)<|B1 25 V (CQ (n:=1) Y Y A0 A0)<|B1 26 V (Ad Gk CA Y Y A0)<|B1 27 V (Ap (off:=1) C3 V rfl AE Y)<|DP 28 V Wh (BD AH Y (by simpa using qa))<|B1 29 V (AA (off:=1) C3 V rfl AE Y)<|DP 30 V Wh (BD AH Y Ax)<|B1 31 V (Ef Y Y)<|B1 32 V (AX Y Y)<|B1 33 V (AL Y Y)<|A3 34 V (AX Y Y)<|Ag<|Zn [0,3,4,5,6,7,10,15,186] ?_;refine Zx<|Av Y (fun zu=>?_) (fun zu=>?_);·
       refine AC<|Zx<|AR<|Zg<|Zm Y<|Yb (n:=1) Y Y<|AW Y<|A8<|Zn [15,0,3,4,5,6,7,10] ?_;refine Aa (e':=[(15,_)]) (by exact ⟨j -1,V,⟨by omega,(Yx gy hy (by unfold MO;omega)).symm.trans U⟩,V,V⟩)
      refine Az<|Zt<|Zt<|AV<|Zn [15,0,3,4,5,6,7,10] ?_;refine BB (e':=[(15,_)]) (by exact ⟨j,⟨hj,U.symm.trans (by exact Yv A0 hy (by unfold MO;first|omega|(simp_all;omega)))⟩,rfl,rfl⟩)
     rw [Cl ax];refine AN 23 V<|AN 24 V<|AN 25 V<|AN 26 V<|AN 27 V<|AN 28 V<|AN 29 V<|AN 30 V<|AN 31 V<|B1 32 V (AL Y Y)<|B1 33 V (AL Y Y)<|A3 34 V (AX Y Y)<|Ag<|Zn [0,3,4,5,6,7,10,15,186] ?_;refine Zx<|DI Y<|Az<|Zt<|Zt<|AV<|Zn [15,0,3,4,5,6,7,10] ?_;refine BB (e':=[(15,_)]) (by exact ⟨j,⟨hj,U.symm.trans (by exact Yv A0 hy (by unfold MO;first|omega|(simp_all;omega)))⟩,rfl,rfl⟩)
    rw [Cl gy];refine AN 3 V<|AN 4 V<|AN 5 V<|AN 6 V<|AN 7 V<|AN 8 V<|AN 9 V<|AN 10 V<|AN 11 V<|AN 12 V<|AN 13 V<|AN 14 V<|AN 15 V<|AN 16 V<|AN 17 V<|AN 18 V<|AN 19 V<|AN 20 V<|AN 21 V<|AN 22 V<|AN 23 V<|AN 24 V<|AN 25 V<|AN 26 V<|AN 27 V<|AN 28 V<|AN 29 V<|AN 30 V<|AN 31 V<|AN 32 V<|AN 33 V<|A3 34 V (AL Y Y)<|Ag<|Zn [0,3,4,5,6,7,10,15,186] ?_;refine Zx<|DI Y<|Az<|Zt<|Zt<|AV<|Zn [15,0,3,4,5,6,7,10] ?_;refine BB (e':=[(15,_)]) (by exact ⟨j,⟨hj,U.symm.trans (by exact sU A0)⟩,V,V⟩)
   rintro _ _ ⟨j,⟨hj,Gl⟩,rfl,rfl⟩;refine Aw (n:=12) (0::0::0::7::0::16::0::0::192::496::1023::2047::[]) 1568 AF AF V<|A3 0 V (AO Y)<|A3 1 V (AO Y)<|A3 2 V (AO Y)<|A3 3 V (Ou Gk CA Y Y Y A0)<|FF 4 V Wh (Pa #[_,_,_,_,_,_,_,_,_,_] GP CA Y)<|A3 6 V (AO Y)<|A3 7 V (AO Y)<|A3 8 V (C8 Gk CA Y Y A0)<|Yw 5 511 V (Ai (vs:=[_]) (cs:=[_,_,_,_,_,_,_,_,_,_]) Gk CA Lw Y V rfl V rfl V)<|AG fun gb=>Yw 9 1023 V (BV (by_:=80) (sz:=10) Gk (V:Tryz.prog.info? 74=some Tryz.t74) V rfl V rfl Y (IV 10 74 gb 1 (Co [c]) V B0) Y (K5 G j (cs.length -j) _ A0) Wo Wo (by exact fun u hu=>PS cs u (Kf hu)) A0 A0) ?_;rintro _ _ ⟨Pn,l8,rfl⟩;obtain ⟨Mx,KS,rfl⟩:=l8.form;refine Yw 10 2047 V (RA (by_:=80) (sz:=10) Gk (V:Tryz.prog.info? 74=some Tryz.t74) V rfl V rfl Y (K4 G j _ hj) Y (jT l8) Wo Wo A0 A0 A0) ?_;rintro _ _ ⟨Ps,l9,rfl⟩;have vw:=Ba l9 (n':=(cs.take j++[c]++cs.drop j).length) (xs':=Co (cs.take j++[c]++cs.drop j)) (by simp only [BW,CD,CH,F2];omega) (by rw [J5,J5,Uv,Uw,Cd])
   obtain ⟨MB,LD,rfl⟩:=l9.form;refine A3 11 V (Aq Y)<|Ag<|A8<|Zx<|Zg<|Zm Y<|Ya (n:=1) Y Y<|AW Y<|Zn [6,7,0,3,4,5] ?_;refine Aa (e':=[(6,_),(7,_)]) (by exact ⟨k+1,_,cs.take j++[c]++cs.drop j,_,V,⟨by omega,by simp only [BW,CD,CH,F2];omega,vw,vY Z W X dn d9 cu J Gl⟩,V,V⟩)
  have l5:cs=GR (BQ B) z 3:=by have e3:k=3:=A0;subst e3;exact Z
  refine Az<|Zt<|Zt<|AV<|Zx<|A1<|Zm Y<|Zp Y V<|Zh 1 JT V rfl AE Y<|Zl AH Y<|Ya (n:=1) Y Y<|Zm Y<|Zv (BM (vs:=[(0,_),(1,_)]) (cs:=#[_,_]) Y (AZ (pl:=#[(0,1),(1,1)]) Tl HF (fun _=>by kernel_rfl) V))<|Ze (Al Tl #[_,_])<|AG fun rb=>Xe (BL G3 Y Y (by(simp [Value.oneCell',Value.cells];done)) Wu (by exact (rfl:_=(#[I0 ((B.length:Int)+1),.slice gw cs.length cw]:AM))) Fi (by exact CT _) (by exact BC _))<|A6<|A1<|Zm Y<|Zo Wh (Pa #[_,_] IH G3 Y)<|Zc [_,_] Y call25 Y rfl (ru sp (B.length:Int) ((B.length:Int)+1) _ (BQ B) sv sl gw cw cs j5 (QV G A0) zf Gw A0) ?_;rintro _ _ ⟨_,wz,rfl⟩;rcases wz with⟨ic,v2,zi,rfl,y9,rfl⟩|⟨ic,rfl,rfl⟩
  ·
   refine AW Y<|Zn [0,3,4,5,16,17] ?_;refine Zx<|A1<|Zm Y<|Zv (Cj (n:=0) Y Y)<|A6<|Av Y (fun he=>?_) (fun he=>?_);·
    have pg:En (B++[⟨(B.length:Int)+1,gw,cw,cs⟩]):=bn.snoc ic (by show cs.length<=3;omega);have pq:(((B++[(⟨(B.length:Int)+1,gw,cw,cs⟩:BR)]).length:Nat):Int)=(B.length:Int)+1:=by rw [BW,F2];omega
    have yt:Bc 5 80 v2 (BQ (B++[⟨(B.length:Int)+1,gw,cw,cs⟩])).length (Ae (BQ (B++[⟨(B.length:Int)+1,gw,cw,cs⟩]))) zi:=by rw [Fq];exact y9
    have qz:∀r∈B++[(⟨(B.length:Int)+1,gw,cw,cs⟩:BR)],Cv (MM++sl) (.slice r.q r.cs.length r.cap) r.cs:=by
     intro r hr;rcases C2.1 hr with hr|hr
     · exact Jj (p8 r hr) sl
     · rw [C5.1 hr];exact H5 (QV G A0) MM
    refine Cb (s1:=MM) (s2:=sl) Wo Wo ?_;refine Zg<|Zm Y<|Zo Wh (Pa #[_,_] IH G3 Y)<|Ze (Ai (vs:=[_]) (cs:=[_,_]) HA G3 Tl Y V rfl V rfl V)<|AG fun gq=>Ze (BV (by_:=32) (sz:=2) HA (V:Tryz.prog.info? 57=some Tryz.t57) V rfl V rfl Y (j3) Y (Db 2 gq 1 1 57 (0,0) [I0 ((B.length:Int)+1),.slice gw cs.length cw] V) Wo Wo G0 A0 A0) ?_;rintro _ _ ⟨sO,vz,rfl⟩;have y5:=Ba vz (n':=(B++[(⟨(B.length:Int)+1,gw,cw,cs⟩:BR)]).length) (xs':=Dv (B++[⟨(B.length:Int)+1,gw,cw,cs⟩])) (by rw [BW,F2]) (by rw [Kk];rfl)
    obtain ⟨gO,cO,rfl⟩:=vz.form;refine AW Y<|A8<|Zx<|Zg<|Zm Y<|Ya (n:=1) Y Y<|AW Y<|Zn [3,5,0,4] ?_;refine Aa (e':=[(3,_),(5,_)]) (by exact ⟨i+1,B++[⟨(B.length:Int)+1,gw,cw,cs⟩],_,_,zi,sO,MM++sl,rfl,⟨by omega,pg,by rw [BW,F2];omega,yt,y5,qz,yB qb o9 l5 ic⟩,rfl,by rw [pq]⟩)
   exact absurd V he
  refine AW Y<|Zn [0,3,4,5,16,17] ?_;refine Zx<|A1<|Zm Y<|Zv (Cj (n:=0) Y Y)<|A6<|Av Y (fun he=>by cases he)<|fun he=>AC<|A8<|Zx<|Zg<|Zm Y<|Ya (n:=1) Y Y<|AW Y<|Zn [3,5,0,4] ?_;refine Aa (e':=[(3,_),(5,_)]) (by exact ⟨i+1,B,_,_,sv,so,MM,V,⟨by omega,bn,by omega,j5,j3,p8,tr qb o9 l5 ic⟩,V,V⟩)
 refine Az<|Zt<|Zt<|AV<|Zx<|Zq<|Cb (s1:=so) (s2:=MM) Wo Wo ?_;refine Zg<|Zm Y<|A5 Y<|AJ<|AP rfl results6 Y (by exact ⟨B,_,bn,by omega,by rw [o9,Hx A0],K9 j3 A0 p8,rfl⟩)
end Go.Proofs.YthhakdmlpngcmaaGreatDoor
