/- Sane. -/
import Derived.Test.YthhakdmlpngcmaaGreatDoorCe9
import Derived.ProofKit
import Derived.OpenShut
import Derived.Stop.LaidErr
import Derived.Test.YthhakdmlpngcmaaGreatDoorRows
set_option linter.unusedVariables false
set_option linter.unusedSimpArgs false
namespace Go.Proofs.YthhakdmlpngcmaaGreatDoor
open Go.Proofs.Tryz
open Go Go.RowKit Gw
set_option maxRecDepth 100000
attribute [local irreducible] Gw.At Gw.Nx Gw.Ops
theorem av{M:List A9}{g:Nat}{T:AM}{z:Nat×Nat}{cur:AK}{c:Chg}(G:(g,Obj.cells cur T z)∈M)(I:10<=cur.size)(B:cur.extract 0 10=c.A70):Cv M (I6 g [c].length 1) [c]:=⟨_,_,rfl,by show 1<=maxLen;decide,fun i x m=>by
 match i,m with
 |0,m=>injection m with m;subst m;exact ⟨g,0,cur,T,z,rfl,G,by omega,by simpa using B⟩
 |i+1,m=>simp at m⟩
theorem ut(G I B:Nat):∃(l:List BQ) (M:List A9),M=[(G,Obj.cells #[I4 0,I4 5,.bool false,I4 0,I4 0,I4 0,.bool true,I4 10,I4 2,I4 7] 74 (0,0))]++([(I,Obj.cells #[I4 0,I4 6,.bool false,I4 0,I4 0,I4 0,.bool true,I4 11,I4 9,I4 7] 74 (0,0))]++[(B,Obj.cells #[I4 1,I6 G 1 1,I4 2,I6 I 1 1] 57 (0,0))])/\q7 l/\Ec M (I6 B l.length 2) l:=by
 refine ⟨aZ (some ⟨G,0,none⟩) (some ⟨I,0,none⟩),_,V,uu _ _,⟨_,_,V,⟨by show 2<=maxLen;decide,CI _⟩,fun i r m=>?_⟩⟩
 match i,m with
 |0,m=>injection m with m;subst m;exact ⟨av (g:=G) (c:=exD 5 10 2) (.head _) B1 rfl,B,0,_,_,_,rfl,.tail _ (.tail _ (.head _)),db rfl,rfl⟩
 |1,m=>injection m with m;subst m;exact ⟨av (g:=I) (c:=exD 6 11 9) (.tail _ (.head _)) B1 rfl,B,0,_,_,_,rfl,.tail _ (.tail _ (.head _)),db rfl,rfl⟩
 |i+2,m=>simp [aZ]at m
set_option maxHeartbeats 4000000 in
theorem zw(Tg:AM)(zg:Nat×Nat)(Tp:AM)(zp:Nat×Nat):BJ prog 5 #[] [[(4,.cells (Ew.map Cz).toArray Tg zg)],[(1,.cells (Lib.pow10Tab.map fun z=>Value.int .u64 z).toArray Tp zp)]] (.bool true):=by
 have hml:=mL;refine Se func5 ntmps5 [] ?_;intro u R;refine A1<|A5 Y<|A1<|Zv (BM (vs:=[(0,_),(1,_),(2,_)]) (cs:=#[_,_,_]) Y (DL ZS HM AE V))<|Zv (BM (vs:=[(1,I4 5),(4,.bool true),(5,.agg #[I4 10,I4 2,I4 7])]) (cs:=#[I4 0,I4 5,.bool false,I4 0,I4 0,I4 0,.bool true,I4 10,I4 2,I4 7]) Y (AY (pl:=#[(0,1),(1,1),(2,1),(3,3),(6,1),(7,3)]) LS C3 (fun _=>by kernel_rfl) AF))<|Ze (Ai (vs:=[_]) (cs:=[_,_,_,_,_,_,_,_,_,_]) Gk CC LS Y V rfl V rfl V)<|AG fun g1=>Zv (BM (vs:=[(0,_),(1,_)]) (cs:=#[_,_]) Y (AY (pl:=#[(0,1),(1,1)]) TX HE (fun _=>by kernel_rfl) V))<|Zv (BM (vs:=[(0,_),(1,_),(2,_)]) (cs:=#[_,_,_]) Y (DL ZS HM AE V))<|Zv (BM (vs:=[(1,I4 6),(4,.bool true),(5,.agg #[I4 11,I4 9,I4 7])]) (cs:=#[I4 0,I4 6,.bool false,I4 0,I4 0,I4 0,.bool true,I4 11,I4 9,I4 7]) Y (AY (pl:=#[(0,1),(1,1),(2,1),(3,3),(6,1),(7,3)]) LS C3 (fun _=>by kernel_rfl) AF))<|Ze (Ai (vs:=[_]) (cs:=[_,_,_,_,_,_,_,_,_,_]) Gk CC LS Y V rfl V rfl V)<|AG fun g2=>Zv (BM (vs:=[(0,_),(1,_)]) (cs:=#[_,_]) Y (AY (pl:=#[(0,1),(1,1)]) TX HE (fun _=>by kernel_rfl) V))<|Ze (Ai (vs:=[_,_]) (cs:=[_,_,_,_]) HF GC TX Y V rfl V rfl V)<|AG fun g0=>A5 Y<|Zq<|Cb (s1:=[(g2,Obj.cells #[I4 0,I4 6,.bool false,I4 0,I4 0,I4 0,.bool true,I4 11,I4 9,I4 7] 74 (0,0))]) (s2:=[(g0,Obj.cells #[I4 1,I6 g1 1 1,I4 2,I6 g2 1 1] 57 (0,0))]) Wo Wo ?_;refine Cb (s1:=[(g1,Obj.cells #[I4 0,I4 5,.bool false,I4 0,I4 0,I4 0,.bool true,I4 10,I4 2,I4 7] 74 (0,0))]) (s2:=([(g2,Obj.cells #[I4 0,I4 6,.bool false,I4 0,I4 0,I4 0,.bool true,I4 11,I4 9,I4 7] 74 (0,0))]++[(g0,Obj.cells #[I4 1,I6 g1 1 1,I4 2,I6 g2 1 1] 57 (0,0))])) Wo Wo ?_;obtain ⟨l,M,hM,G,qb⟩:=ut g1 g2 g0;rw [<-hM];have zu:=G.len
 rw [show(Value.slice (some ⟨g0,0,none⟩) 2 2:A4)=I6 g0 l.length 2 by rw [zu]];obtain ⟨r2,U,zb,P5⟩:=G.two;obtain ⟨ax,gm,offm,curm,Tm,zm,sw,sj,hszm,bn⟩:=rN qb U;injection sw with sw
 injection sw with hpm1 hpm2 _
 subst hpm1 hpm2;refine Zg<|Zv (BM (vs:=[(0,I4 3),(2,I4 1),(3,I4 10),(4,I4 19)]) (cs:=#[I4 3,I4 0,I4 1,I4 10,I4 19,I4 0,I4 0]) Y (AY (pl:=#[(0,1),(1,1),(2,1),(3,1),(4,1),(5,1),(6,1)]) Lz CN (fun _=>by kernel_rfl) AF))<|Ze (Al Lz #[_,_,_,_,_,_,_])<|AG fun bq=>Xe (Xw CM #[I4 3,I4 0,I4 1,I4 10,I4 19,I4 0,I4 0])<|Z0<|Zn [1,2] ?_;refine Zx<|A1<|Zo Wh (AB (cs:=#[_,_,_,_,_,_,_]) F1 CM Y B1 (BN V))<|Xr [_] Y call10 Y V (Kq exQ Tz Tp zp)<|Zm Y<|Zd Y V<|Zd Y V<|Za Y<|A5 Y<|A1<|Ze (Ai (vs:=[_]) (cs:=[_]) DE AE HJ Y V rfl V rfl V)<|AG fun gs=>Zc [_,_,_] Y call8 Y V (zI (sh:=[5]) (qZ gs (I4 5)) 1 10 B1 B1 B1 B1 B1) ?_;rintro _ _ ⟨_,⟨c0,rfl,hc0,⟨X,p8,hw0⟩,hp0,Gl,gq,af,MP,rfl⟩,rfl⟩;have MB:UF c0 [5]:=⟨MP,gq.symm,by simp⟩
 have L0:J8 l 1 c0:=⟨hc0,hp0,by omega,by rw [hw0];exact Y0 l 1,fun x K=>by rw [X]at K;cases K⟩;refine Zm Y<|Zd Y V<|Zd Y V<|Za Y<|AW Y<|Zn [1,2,3,5,6] ?_;refine Zx<|A1<|Ze (Ai (vs:=[_]) (cs:=[_]) DE AE HJ Y V rfl V rfl V)<|AG fun Ty=>Xr [_,_,_] Y call8 Y V (vH (-1) 10 (I6 Ty 1 1) B1)<|Zm Y<|Zd Y V<|Zd Y V<|Za Y<|A5 Y<|Zq<|A1<|Zm Y<|Zv (Bh RE Y Y)<|Zm Y<|Ah (t:=55) Y V (fun k1=>by cases k1)<|fun k1=>Zf Y Y<|Yg (FY (n:=0) Y Y)<|Zv (AL Y Y)<|Zm Y<|Ao (t:=59) Y V (fun k2=>?_) (fun k2=>?_);·
  exact absurd V k2
 refine Zf Y Y<|Yg (FY (n:=180) Y Y)<|Zv (AL Y Y)<|Z0<|Zn [1,2,3,5,62] ?_;refine Zx<|Aw Y (fun k3=>?_) (fun k3=>?_);·
  exact absurd V k3
 refine AC<|Zx<|A1<|Zm Y<|Zm Y<|Zo Wh (AB (cs:=#[_,_,_,_,_,_,_]) F1 CM Y B1 (BN V))<|Zc [_,_,_,_] Y call14 Y V (XW qb G.b.ok A0 1 A0 Tz (G.b.scan 1 A0 exQ) 0 Tg zg) ?_;rintro _ _ ⟨_,⟨E1,pg1,cg1,vz,rfl,rfl⟩,rfl⟩;have l9:1+((0:Nat):Int)<=c0.z.fr:=by
  have h9:=jE L0.ok.tookb (B:=0) (by rw [p8];simp);rw [X,af]at h9;simp at h9⊢;omega
 refine Zc [_,_] Y call13 Y rfl (zG G.b L0 MB Tz (k:=0) (by rw [gq];decide) B1 (a:=1) A0 vz (by have:=Gl;omega) (by rw [X];decide) (n:=0) (fun b hb=>by rw [U5];decide) l9 Tp zp) ?_;rintro _ _ ⟨_,⟨b1,c1,rfl,L1,dn,hnn1,Y2,MC,rfl⟩,rfl⟩;obtain ⟨rfl,y1,kv,l8,r9,ic,hsz1⟩:=Vw X p8 A0 Y2;rw [<-dn.cp];have zy:c1.ns=1:=dn.ns.trans gq
 have ql:c1.z.cap=10:=dn.cap.trans af;have hnx1:c1.next<=11:=by omega
 refine A5 Y<|A1<|Zm Y<|Zm Y ?_;have cu:=XL L1.ok (x:=y1) (by rw [kv];simp) (by rw [ic,L1.pos];omega)
 rw [r9]at cu;refine Zc [_,_] Y call18 Y V (cu) ?_;rintro _ _ ⟨_,⟨z1,l1,s1,P6,hpc1,hzo1,rfl,rfl⟩,rfl⟩;obtain ⟨a1,e11,e12,e13,e14,T9⟩:=L1.at G.b (x:=y1) (by rw [kv];simp);obtain rfl:a1=1:=by omega
 have hv1:z1.a.res.val=1:=by rw [P6];show y1.res.val=1;rw [(T9 A0).1,l8];exact G.e1
 have hu1:z1.a.until_=1:=by rw [P6];show c1.pos=1;rw [L1.pos];rfl
 refine Zm Y<|Zd Y V<|Zd Y V<|Ze (Al Mp #[_,_,_,_,_,_,_,_,_,_,_,_,_,_,_])<|AG fun ba=>Xe (Xw Lk z1.A73)<|AW Y<|Zn [1,2,3,5,9,10,11] ?_;refine Zx<|A1<|Zm Y<|Zm Y<|BU (Ae (j:=1) HF GC Y Y A0)<|CS (IX Wo (sj)) (AB (cs:=#[_,_]) Iv GC Y A0 bn) V rfl<|Zc [_,_] Y call16 Y V (u7 G.b L1 U ax) ?_;rintro _ _ ⟨_,⟨c2,q22,Qe,zs2,tv2,sT2,rfl,L2,m,q9,rfl⟩,rfl⟩;have ME:=MC.of m.ns m.sc m.M
 have J:r2.p=c1.pos+1:=(L1.next G.b U).2;rw [L1.pos]at J;have Pn:zs2=[y1.key]:=zR m kv (by unfold Xu;rw [l8];exact zb) (by rw [ic,J];omega)
 rw [Pn,r9]at q9;obtain ⟨gt,capt,sO,zt,rfl,rfl,hszt,hct⟩:=qX q9 (n:=1) rfl B1;have yt:sO[0]?=some (.string (str (Bi exQ))):=hct 0 B1
 rw [<-m.cp];obtain ⟨y2,zf,sJ,zi,j3⟩:=jW m kv (by rw [ic];omega) (by rw [l8];decide);rw [l8]at sJ;rw [r9]at zi;rw [ic]at j3;have Cn:c2.ns=1:=m.ns.trans zy
 have qo:c2.z.cap=10:=m.zcap.trans ql;have hnx2:c2.next<=12:=by rw [m.next];omega
 refine Zm Y<|Zd Y V<|Zd Y V<|Za Y<|A5 Y<|A1<|Zm Y<|Zm Y ?_;have cO:=XL L2.ok (x:=y2) (by rw [zf];simp) (by rw [j3,L2.pos];omega)
 rw [zi]at cO;refine Zc [_,_] Y call18 Y V (cO) ?_;rintro _ _ ⟨_,⟨z2,l2,s2,sM,Hf,hzo2,rfl,rfl⟩,rfl⟩;obtain ⟨a2,e21,e22,e23,Ta,e25⟩:=L2.at G.b (x:=y2) (by rw [zf];simp);obtain rfl:a2=1:=by omega
 obtain ⟨e241,ve,o9,_⟩:=Ta A0;have hv2:z2.a.res.val=2:=by rw [sM];show y2.res.val=2;rw [ve,sJ];exact G.e2
 have hs2:z2.a.since=2:=by
  rw [sM];show y2.since=2
  rw [sJ]at o9;obtain ⟨⟨a1,a2⟩,_,a4⟩:=o9;rcases (by omega:y2.since=2\/y2.since<=1)with h9|h9
  · exact h9
  · have ht:=a4 1 r2 A0 B1 U
    rw [P5]at ht;cases ht
 have hn2:z2.a.recs.length=1:=by
  rw [sM];show l2.length=1
  have h9:=congrArg List.length Hf;rw [B6,B6,O9 (by rw [L2.pos,j3];omega),L2.pos,j3]at h9;omega
 refine Zm Y<|Zd Y V<|Zd Y V<|Ze (Al Mp #[_,_,_,_,_,_,_,_,_,_,_,_,_,_,_])<|AG fun bb=>Xe (Xw Lk z2.A73)<|AW Y<|Zn [1,2,3,5,9,10,11,12,13,14,15] ?_;refine Zx<|A1<|Zm Y<|Zm Y<|BU (Ae (j:=1) HF GC Y Y A0)<|CS (IX Wo (sj)) (AB (cs:=#[_,_]) Iv GC Y A0 bn) rfl rfl<|Xr [_,_] Y call16 Y rfl (ZM L2.ok.tookb ax (L1.next G.b U).1 (by rw [J,L2.pos];omega))<|Zm Y<|Zd Y rfl<|Zd Y rfl<|Za Y<|A5 Y<|A1<|Zm Y<|Zc [_,_] Y call22 Y rfl (s8 L2.ok 1 B1) ?_;rintro _ _ ⟨_,⟨rfl,c3,hc3,y9,⟨I,p9,hw3⟩,Gw,gy,Z,O,pg,rfl⟩,rfl⟩;have MJ:=ME.of Z pg.1 pg.2
 rw [<-y9];have L3:J8 l 1 c3:=⟨hc3,Gw,by omega,by rw [hw3];exact Y0 l 1,fun x K=>by rw [I]at K;cases K⟩
 rw [Cn]at Z;rw [qo]at O;replace gy:c3.next<=13:=by rw [gy];omega
 refine A6<|A1<|Zm Y<|Zc [_] Y call17 Y V (ux L3.ok.tookb) ?_;rintro _ _ ⟨_,⟨zs3,sk3,pz,_,Mx,rfl⟩,rfl⟩;rw [I]at pz;have Ps:zs3=[]:=pz.eq_nil
 subst Ps;obtain ⟨pk3,ck3,rfl⟩:=jB Mx (n:=0) rfl;refine Zv (Ac DH Y)<|Zv (Ci (n:=0) Y Y)<|Zm Y<|Ao (t:=102) Y V (fun k4=>?_) (fun k4=>?_);·
  refine Zf Y Y<|Xr [_] Y call15 Y V (x6 c3) ?_;rw [Gw];refine Yg (Ci (n:=1) Y Y)<|Zv (AX Y Y)<|AW Y<|Zn [1,2,3,5,9,10,11,12,13,14,15,17,18] ?_;refine Zx<|A1<|Zm Y<|Zm Y<|Zo Wh (AB (cs:=#[_,_,_,_,_,_,_]) F1 CM Y B1 (BN V))<|Zc [_,_,_,_] Y call14 Y V (XW qb G.b.ok A0 2 A0 Tz (G.b.scan 2 A0 exQ) 0 Tg zg) ?_;rintro _ _ ⟨_,⟨E2,pg2,cg2,wo,rfl,rfl⟩,rfl⟩;have o8:1+((0:Nat):Int)<=c3.z.fr:=by
   have h9:=jE L3.ok.tookb (B:=0) (by rw [p9];simp);rw [I,O]at h9;simp at h9⊢;omega
  refine Zc [_,_] Y call13 Y rfl (zG G.b L3 MJ Tz (k:=0) (by rw [Z];decide) B1 (a:=2) A0 wo (by have:=gy;omega) (by rw [I];decide) (n:=0) (fun b hb=>by rw [U5];decide) o8 Tp zp) ?_;rintro _ _ ⟨_,⟨b4,c4,rfl,L4,ek,hnn4,hP4,MK,rfl⟩,rfl⟩;obtain ⟨rfl,y4,qx,HZ,zk,j5,MS⟩:=Vw I p9 A0 hP4;rw [<-ek.cp];have FT:c4.ns=1:=ek.ns.trans Z
  have qw:c4.z.cap=10:=ek.cap.trans O;have hnx4:c4.next<=14:=by omega
  refine A5 Y<|A1<|Zm Y<|Zm Y ?_;have za:=nA L4.ok (x:=y4) (by rw [qx];simp) (by rw [j5,L4.pos];omega)
  rw [zk]at za;refine Xr [_,_] Y call18 Y V (za)<|Zm Y<|Zd Y V<|Zd Y V<|Ze (Al Mp #[_,_,_,_,_,_,_,_,_,_,_,_,_,_,_])<|AG fun bc=>Xe (Xw Lk #[I4 0,I4 0,I4 0,I4 0,I4 0,I4 0,I4 0,.slice none 0 0,I4 0,.bool false,I4 0,I4 0,I4 0,.slice none 0 0,.slice none 0 0])<|AW Y<|Zn [1,3,5,9,10,11,12,13,14,15,17,18,19,21] ?_;refine Zx<|A1<|Zm Y<|Zm Y<|BU (Ae (j:=1) HF GC Y Y A0)<|CS (IX Wo (sj)) (AB (cs:=#[_,_]) Iv GC Y A0 bn) V rfl<|Zc [_,_] Y call16 Y V (u7 G.b L4 U ax) ?_;rintro _ _ ⟨_,⟨c5,q52,Rl,zs5,tv5,sT5,rfl,L5,g,qa,rfl⟩,rfl⟩;have hsh5:=MK.of g.ns g.sc g.M
  have J:r2.p=c4.pos+1:=(L4.next G.b U).2;rw [L4.pos]at J;have Qd:zs5=[]:=wN g fun x K=>by rw [qx]at K;rw [C5.1 K,j5];omega
  rw [Qd]at qa;obtain ⟨pk5,ck5,rfl⟩:=jB qa (n:=0) rfl;rw [<-g.cp];obtain ⟨y5,qz,KS,zl,qj⟩:=jW g qx (by rw [j5];omega) (by rw [HZ];decide);rw [HZ]at KS;rw [zk]at zl;rw [j5]at qj;have pq:c5.ns=1:=g.ns.trans FT
  have hcap5:c5.z.cap=10:=g.zcap.trans qw;have hnx5:c5.next<=15:=by rw [g.next];omega
  refine Zm Y<|Zd Y V<|Zd Y V<|Za Y<|A5 Y<|A1<|Zm Y<|Zm Y ?_;have d9:=XL L5.ok (x:=y5) (by rw [qz];simp) (by rw [qj,L5.pos];omega)
  rw [zl]at d9;refine Zc [_,_] Y call18 Y V (d9) ?_;rintro _ _ ⟨_,⟨z5,l5,s5,P7,hpc5,hzo5,rfl,rfl⟩,rfl⟩;obtain ⟨a5,e51,e52,e53,e54,Tc⟩:=L5.at G.b (x:=y5) (by rw [qz];simp);obtain rfl:a5=2:=by omega
  have hv5:z5.a.res.val=2:=by rw [P7];show y5.res.val=2;rw [(Tc A0).1,KS];exact G.e2
  have wz:z5.a.base=2:=by rw [P7];show y5.base=2;rw [qj];rfl
  refine Zm Y<|Zd Y V<|Zd Y V<|Ze (Al Mp #[_,_,_,_,_,_,_,_,_,_,_,_,_,_,_])<|AG fun bd=>Xe (Xw Lk z5.A73)<|AW Y<|Zn [3,5,9,10,11,12,13,14,15,17,18,19,21,22,24,25] ?_;refine Zx<|A1<|Zm Y<|Zm Y<|Ah (t:=133) Y V (fun g1=>?_) (fun g1=>?_);·
   refine Zf Y Y<|Zv (AX Y Y)<|Zm Y<|Ah (t:=136) Y V (fun g2=>?_) (fun g2=>?_);·
    refine Yf 7 N5 V rfl B9 Y<|Yg (Ap (off:=1) E6 V rfl AE Y)<|Yl AH Y<|Yg (CP Y Y)<|Zv (AX Y Y)<|Zm Y<|Ao (t:=142) Y V (fun g3=>?_) (fun g3=>?_);·
     refine Yf 11 N5 V rfl AE Y<|Yl AH Y<|Yg (CP Y Y)<|Zv (AX Y Y)<|Zm Y<|Ao (t:=147) Y V (fun g4=>?_) (fun g4=>?_);·
      refine Zf Y Y<|Yg (Ci (n:=0) Y Y)<|Zv (AX Y Y)<|Zm Y<|Ao (t:=151) Y V (fun g5=>?_) (fun g5=>?_);·
       refine Zf Y Y<|Yg (Ac DH Y)<|Yg (Ci (n:=1) Y Y)<|Zv (AX Y Y)<|Zm Y<|Ao (t:=156) Y V (fun g6=>?_) (fun g6=>?_);·
        refine Zf Y Y<|GU Y (Be (j:=0) DH Fm Y Y cn) rfl rfl ?_;refine Yl Hh Y (hv:=by exact yt)<|Zf Y Y<|Yg (lc Y Y)<|Zv (AX Y Y)<|AW Y<|Zn [5,14,15,17,18,19,21,22,24,25,26] ?_;refine Zx<|A1<|Zm Y<|Zm Y<|Ah (t:=164) Y V (fun g8=>?_) (fun g8=>?_);·
         refine Yf 7 N5 V rfl B9 Y<|Yg (Ap (off:=1) E6 V rfl AE Y)<|Yl AH Y<|Yg (CP Y Y)<|Zv (AX Y Y)<|Zm Y<|Ao (t:=170) Y V (fun g9=>?_) (fun g9=>?_);·
          refine Yf 10 N5 V rfl AE Y<|Yl AH Y<|Yg (CP Y Y)<|Zv (AX Y Y)<|Zm Y<|Ao (t:=175) Y V (fun vo=>?_) (fun vo=>?_);·
           refine Yf 14 N5 V rfl SM Y<|Yl isAgg25 Y<|Yg (Ac HF Y)<|Yg (Ci (n:=1) Y Y)<|Zv (AX Y Y)<|Zm Y<|Ao (t:=181) Y V (fun vw=>?_) (fun vw=>?_);·
            refine Zf Y Y<|Yg (Ci (n:=180) Y Y)<|Zv (AX Y Y)<|AW Y<|Zn [5,18,19,21,22,24,25,26,27] ?_;refine Zx<|A1<|Zm Y<|Zm Y<|Ao (t:=186) Y V (fun m1=>?_) (fun m1=>?_);·
             refine Zf Y Y<|Zv (AX Y Y)<|Zm Y<|Ao (t:=189) Y V (fun m2=>?_) (fun m2=>?_);·
              refine Zf Y Y<|Zv (AX Y Y)<|Zm Y<|Ao (t:=192) Y V (fun m3=>?_) (fun m3=>?_);·
               refine Zf Y Y<|Zv (AX Y Y)<|Zm Y<|Ah (t:=195) Y V (fun m4=>?_) (fun m4=>?_);·
                refine Zf Y Y<|Yg (Bt Y)<|Zv (AX Y Y)<|Zm Y<|Ah (t:=199) Y V (fun m5=>?_) (fun m5=>?_);·
                 refine Zf Y Y<|Yg (Ac DH Y)<|Yg (Ci (n:=0) Y Y)<|Zv (AX Y Y)<|Zm Y<|Ao (t:=204) Y V (fun m6=>?_) (fun m6=>?_);·
                  refine Zf Y Y<|Zv (AX Y Y)<|Zm Y<|Ah (t:=207) Y V (fun m7=>?_) (fun m7=>?_);·
                   refine Yf 7 N5 V rfl B9 Y<|Yg (Ap (off:=1) E6 V rfl AE Y)<|Yl AH Y<|Yg (CP Y Y)<|Zv (AX Y Y)<|Zm Y<|Ao (t:=213) Y V (fun m8=>?_) (fun m8=>?_);·
                    refine Yf 12 N5 V rfl AE Y<|Yl AH Y<|Yg (CP Y Y)<|Zv (AX Y Y)<|Zm Y<|Ao (t:=218) Y V (fun m9=>?_) (fun m9=>?_);·
                     refine Zf Y Y<|Xr [_,_] Y SR Y rfl (LZ (k:=0) L5.ok.tookb (by rw [pq];decide)) ?_;rw [wm L5.ok.tookb pq qz (fun e he=>MS e (g.PL e he))];refine Yg (Ci (n:=1) Y Y)<|Zv (AX Y Y)<|AW Y<|Zn [0] ?_;refine Zx<|AJ<|AP V results5 Y (by exact ⟨V,V⟩)
                    exact absurd wz m9
                   exact absurd hv5 m8
                  cases m7
                 exact absurd V m6
                cases m5
               cases m4
              exact absurd V m3
             exact absurd V m2
            exact absurd V m1
           exact absurd hn2 vw
          exact absurd hs2 vo
         exact absurd hv2 g9
        cases g8
       exact absurd V g6
      exact absurd V g5
     exact absurd hu1 g4
    exact absurd hv1 g3
   cases g2
  cases g1
 exact absurd V k4
def MZ(z:Int):Nat:=if z<0 then(-(z+1)).toNat else z.toNat
theorem jq{z:Int}(h:z<0):(-(z+1)).toNat=MZ z:=(Ax h).symm
theorem jo{z:Int}(h:¬z<0):z.toNat=MZ z:=(As h).symm
def uR(had:Bool)(m:Nat):Bool:=!had||decide (0<m%4)
def x5(m:Nat):V3:=⟨((m/4%10:Nat):Int),((1+m/40%9:Nat):Int),((m/400%40:Nat):Int) -20⟩
def ji(gr:AR×Bool)(n m:Nat):Chg:=⟨((n%3:Nat):Int),((1+n/3%9:Nat):Int),gr.2,gr.1.v,uR gr.2 m,if uR gr.2 m then x5 m else V3.zero⟩
def Qq(rs:List AR)(n m:Nat):Chg:=ji (Fy rs ((n%3:Nat):Int) ((1+n/3%9:Nat):Int)) n m
def Ry(c y:Chg):Bool:=decide (y.t=c.t/\y.k=c.k)
def FN(cs:List Chg)(c:Chg)(k n:Nat):Prop:=cs.any (Ry c)=true\/(c.had=true/\c.has=true/\c.o=c.n)\/(0<k/\n%5=0)
instance(cs:List Chg)(c:Chg)(k n:Nat):Decidable (FN cs c k n):=inferInstanceAs(Decidable (_\/_))
def MV(c y:Chg):Prop:=c.t<y.t\/y.t=c.t/\c.k<y.k
instance(c y:Chg):Decidable (MV c y):=inferInstanceAs(Decidable (_\/_))
def Q0(cs:List Chg)(c:Chg):Nat->Nat
 |0=>0
 |j+1=>match cs[j]?with
  |some y=>if MV c y then Q0 cs c j else j+1
  |none=>j+1
theorem Yh{cs:List Chg}{c y:Chg}{j:Nat}(h0:0<j)(g:cs[j -1]?=some y)(h:MV c y):Q0 cs c j=Q0 cs c (j -1):=by
 obtain ⟨k,rfl⟩:∃k,j=k+1:=⟨j -1,by omega⟩;rw [Rg]at g⊢;rw [Q0,g];exact Ax h
theorem Ye{cs:List Chg}{c y:Chg}{j:Nat}(h0:0<j)(g:cs[j -1]?=some y)(h:¬MV c y):Q0 cs c j=j:=by
 obtain ⟨k,rfl⟩:∃k,j=k+1:=⟨j -1,by omega⟩;rw [Rg]at g;rw [Q0,g];exact As h
theorem rW{cs:List Chg}{c:Chg}{j:Nat}(h0:¬0<j):Q0 cs c j=j:=by
 obtain rfl:j=0:=by omega
 rfl
noncomputable def V9(rs:List AR)(z:List Int)(k:Nat)(cs:List Chg):List Chg:=
 if FN cs (Qq rs (MZ (z.getD (2*k) 0)) (MZ (z.getD (2*k+1) 0))) k (MZ (z.getD (2*k) 0))then cs
 else cs.take (Q0 cs (Qq rs (MZ (z.getD (2*k) 0)) (MZ (z.getD (2*k+1) 0))) cs.length)++[Qq rs (MZ (z.getD (2*k) 0)) (MZ (z.getD (2*k+1) 0))]++cs.drop (Q0 cs (Qq rs (MZ (z.getD (2*k) 0)) (MZ (z.getD (2*k+1) 0))) cs.length)
noncomputable def GL(rs:List AR)(z:List Int):Nat->List Chg
 |0=>[]
 |k+1=>V9 rs z k (GL rs z k)
theorem RS{z:List Int}{i:Nat}{n:Int}(h:z[i]?=some n):z.getD i 0=n:=by rw [Mz,h];rfl
theorem KX{rs:List AR}{z:List Int}{k n m:Nat}{B G:Int}{cs:List Chg}{c:Chg}(g:cs=GL rs z k)(I:z[2*k]?=some B)(J:z[2*k+1]?=some G)(O:n=MZ B)(K:m=MZ G)(hc:c=Qq rs n m)(h:FN cs c k n):cs=GL rs z (k+1):=by
 subst O K hc;show _=V9 rs z k (GL rs z k)
 unfold V9;rw [RS I,RS J,<-g,Ax h]
theorem vK{rs:List AR}{z:List Int}{k n m j:Nat}{B G:Int}{cs:List Chg}{c:Chg}(g:cs=GL rs z k)(I:z[2*k]?=some B)(J:z[2*k+1]?=some G)(U:n=MZ B)(O:m=MZ G)(hc:c=Qq rs n m)(h:¬FN cs c k n)(K:Q0 cs c cs.length=j):cs.take j++[c]++cs.drop j=GL rs z (k+1):=by
 subst U O hc K;show _=V9 rs z k (GL rs z k)
 unfold V9;rw [RS I,RS J,<-g,As h]
def YP(L:List (List Chg)):List AR:=L.foldl DV []
theorem YO(l:List BQ):YP (l.map BQ.cs)=Bb l:=by unfold YP Bb;rw [List.foldl_map]
noncomputable instance(rs:List AR)(p q:Int)(cs:List Chg):Decidable (Ke rs p q cs):=Classical.propDecidable _
noncomputable def Mq(L:List (List Chg))(z:List Int):List (List Chg):=
 if Ke (YP L) (L.length:Int) ((L.length:Int)+1) (GL (YP L) z 3)then L++[GL (YP L) z 3]else L
noncomputable def TN(xs:List (List Int)):List (List Chg):=xs.foldl Mq []
theorem Vj{xs:List (List Int)}{i:Nat}{z:List Int}(hz:xs[i]?=some z):TN (xs.take (i+1))=Mq (TN (xs.take i)) z:=by
 unfold TN;rw [PF,hz,bm];rfl
theorem xY{xs:List (List Int)}{i:Nat}{z:List Int}{g:List BQ}{r:BQ}(hz:xs[i]?=some z)(m:g.map BQ.cs=TN (xs.take i))(hc:r.cs=GL (Bb g) z 3)(h:Ke (Bb g) (g.length:Int) ((g.length:Int)+1) r.cs):(g++[r]).map BQ.cs=TN (xs.take (i+1)):=by
 rw [Vj hz,<-m];unfold Mq;rw [YO,B6,<-hc,Ax h,C0];rfl
theorem s7{xs:List (List Int)}{i:Nat}{z:List Int}{g:List BQ}{cs:List Chg}(hz:xs[i]?=some z)(m:g.map BQ.cs=TN (xs.take i))(hc:cs=GL (Bb g) z 3)(h:¬Ke (Bb g) (g.length:Int) ((g.length:Int)+1) cs):g.map BQ.cs=TN (xs.take (i+1)):=by
 rw [Vj hz,<-m];unfold Mq;rw [YO,B6,<-hc,As h]
theorem tW{cs:List Chg}{p:Chg->Bool}{i:Nat}{x:Chg}(g:cs[i]?=some x):(cs.take (i+1)).any p=((cs.take i).any p||p x):=by
 rw [PF,g,List.any_append];simp
theorem Xo{cs:List Chg}{p:Chg->Bool}{i:Nat}{x:Chg}{b g:Bool}(B:cs[i]?=some x)(m:b=(cs.take i).any p)(h:g=(b||p x)):g=(cs.take (i+1)).any p:=by
 rw [tW B,<-m,h]
set_option maxHeartbeats 4000000 in
theorem xJ{M:List A9}{v:A4}{xs:List (List Int)}(hX:WN M v xs)(hx:xs.length<=1000):BR prog 6 #[v] [M] (fun r H'=>∃(l:List BQ) (s:List A9),FC l/\l.length<=xs.length/\l.map BQ.cs=TN xs/\Ec s r l/\H'=[s,M]):=by
 have P5:=mL;obtain ⟨px,KS,rfl,Ps,Cn⟩:=id hX;refine Se func6 ntmps6 [0] ?_;intro u R;refine A1<|A5 Y<|A1<|A5 Y<|A1<|Zc [] Y call23 Y V (rS) ?_;rintro _ _ ⟨_,⟨sp,rfl,rfl⟩,rfl⟩;refine A5 Y<|Zq<|A1<|A5 Y<|AQ<|Bc<|Bc<|Bc<|Zb [3,5,0,4] ?_;refine BI (e0:=[(3,_),(5,_)]) (fun m e H=>∃(i:Nat) (B:List BQ) (w wo:A4) (sv so MM:List A9),m=xs.length -i/\(i<=xs.length/\FC B/\B.length<=i/\Bd 5 80 w (Bb B).length (Af (Bb B)) sv/\Bd 2 57 wo B.length (Du B) so/\(∀r∈B,Cv MM (.slice r.q r.cs.length r.cap) r.cs)/\B.map BQ.cs=TN (xs.take i))/\e=[(3,wo),(5,I4 (i:Int))]/\H=[[(sp,.cells #[w,I4 (B.length:Int)] 84 (0,0))],sv,so,MM]) (by exact ⟨0,[],.slice none 0 0,.slice none 0 0,[],[],[],V,⟨C7 _,(by intro i r h;cases h),CI _,Bj 5 _,Bj 2 _,by simp,V⟩,V,V⟩) Wp ?_;rintro _ _ _ ⟨i,B,w,wo,sv,so,MM,rfl,⟨hi,cu,Pn,kv,j5,p9,p8⟩,rfl,rfl⟩;obtain ⟨qw,qx,rfl⟩:=kv.form;obtain ⟨qo,HZ,rfl⟩:=j5.form;obtain ⟨zi,Hf⟩:=cu.all;have zm:=Pk kv A0
 refine Zq<|A1<|Zm Y<|Zm Y<|Zv (Ac eA Y)<|Zv (Ay Y Y)<|A6<|Aw Y (fun vw=>?_) (fun vw=>?_);·
  obtain ⟨z,qj⟩:∃z,xs[i]?=some z:=⟨_,BT vw⟩;obtain ⟨h6,o9,g,off,cur,T,zz,rfl,hm,sJ⟩:=Cn i z qj;refine AC<|Zx<|Zq<|AQ<|A1<|A5 Y<|Zq<|A1<|A5 Y<|AQ<|Bc<|Zb [6,7,0,3,4,5] ?_;refine BI (e0:=[(6,_),(7,_)]) (fun m e H=>∃(k:Nat) (w2:A4) (cs:List Chg) (sl:List A9),m=3 -k/\(k<=3/\cs.length<=k/\Bd 10 74 w2 cs.length (Cm cs) sl/\cs=GL (Bb B) z k)/\e=[(6,w2),(7,I4 (k:Int))]/\H=[sl]) (by exact ⟨0,.slice none 0 0,[],[],V,⟨C7 _,CI _,Bj 10 _,V⟩,V,V⟩) Wp ?_;rintro _ _ _ ⟨k,w2,cs,sl,rfl,⟨MP,MJ,G,af⟩,rfl,rfl⟩;obtain ⟨gw,cw,rfl⟩:=G.form;have MK:=Ez G
  refine Zq<|A1<|Zm Y<|Zv (Ay (n:=3) Y Y)<|A6<|Aw Y (fun hk=>?_) (fun hk=>?_);·
   obtain ⟨za,X⟩:∃n,z[2*k]?=some n:=⟨_,BT A0⟩;obtain ⟨zb,Z⟩:∃n,z[2*k+1]?=some n:=⟨_,BT A0⟩;have P6:=o9 za (DQ X)
   have P7:=o9 zb (DQ Z);have zt:=sJ _ _ X
   have zu:=sJ _ _ Z;refine AC<|Zx<|Zq<|AQ<|A1<|Zm Y<|Zm Y<|Zm Y<|BU (F8 (m:=2) Y Y A0)<|BU (Ae eA sizeOf78 Y Y A0)<|BU (Cu underlying78 AE Y Y A0)<|CS (cs:=[(g,.cells cur T zz)]) (by simp [hm]) (BF AH Y (by(rw [Mn];exact zt))) V rfl<|A5 Y<|Zb [8,0,3,4,5,6,7] ?_;refine CW (e0:=[(8,_)]) (H0:=[]) (fun e H=>∃(n:Nat),(n<=9223372036854775807/\n=MZ za)/\e=[(8,I4 (n:Int))]/\H=[]) Wp ?hx_3 ?hy_3
   case hx_3=>
    refine A1<|Zm Y<|Zv (EH Y Y)<|A6<|Aw Y (fun FT=>?_) (fun FT=>?_);·
     refine Zg<|Zm Y<|Yi Y Y ?_;refine BU (jH Y (IntWalk.i64_in _ A0))<|AW Y<|Zn [8,0,3,4,5,6,7] ?_;refine Av (e':=[(8,_)]) (by exact ⟨(-(za+1)).toNat,⟨by omega,jq A0⟩,by rw [show(((-(za+1)).toNat:Nat):Int)=0 -(za+1) by omega],rfl⟩)
    refine AC<|Zn [8,0,3,4,5,6,7] ?_;refine Av (e':=[(8,_)]) (by exact ⟨za.toNat,⟨by omega,jo A0⟩,by rw [show((za.toNat:Nat):Int)=za by omega],rfl⟩)
   rintro _ _ ⟨n,⟨hn,ek⟩,rfl,rfl⟩;refine A1<|Zm Y<|Zm Y<|Zm Y<|BU (F8 (m:=2) Y Y A0)<|Ya (n:=1) Y Y ?_;refine BU (Ae eA sizeOf78 Y Y A0)<|BU (Cu underlying78 AE Y Y A0)<|CS (cs:=[(g,.cells cur T zz)]) (by simp [hm]) (BF AH Y (by(rw [Mn];exact zu))) V rfl<|A5 Y<|Zb [9,0,3,4,5,6,7,8] ?_;refine CW (e0:=[(9,_)]) (H0:=[]) (fun e H=>∃(m:Nat),(m<=9223372036854775807/\m=MZ zb)/\e=[(9,I4 (m:Int))]/\H=[]) Wp ?hx_6 ?hy_6
   case hx_6=>
    refine A1<|Zm Y<|Zv (EH Y Y)<|A6<|Aw Y (fun Gl=>?_) (fun Gl=>?_);·
     refine Zg<|Zm Y<|Yi Y Y ?_;refine BU (jH Y (IntWalk.i64_in _ A0))<|AW Y<|Zn [9,0,3,4,5,6,7,8] ?_;refine Av (e':=[(9,_)]) (by exact ⟨(-(zb+1)).toNat,⟨by omega,jq A0⟩,by rw [show(((-(zb+1)).toNat:Nat):Int)=0 -(zb+1) by omega],rfl⟩)
    refine AC<|Zn [9,0,3,4,5,6,7,8] ?_;refine Av (e':=[(9,_)]) (by exact ⟨zb.toNat,⟨by omega,jo A0⟩,by rw [show((zb.toNat:Nat):Int)=zb by omega],rfl⟩)
   rintro _ _ ⟨m,⟨MS,dn⟩,rfl,rfl⟩;refine A1<|Zm Y<|BU (FX (n:=3) Y Y A0)<|Zm Y<|BU (KM (n:=3) Y Y A0 A0)<|BU (FX (n:=9) Y Y A0)<|Ya (m:=1) Y Y<|Zv (BM (vs:=[(0,_),(1,_)]) (cs:=#[_,_,_,_,_,_,_,_,_,_]) Y (AY (pl:=#[(0,1),(1,1),(2,1),(3,3),(6,1),(7,3)]) LS C3 (fun _=>by kernel_rfl) V))<|Ze (Al LS #[_,_,_,_,_,_,_,_,_,_])<|AG fun cb=>Xe (BL CC Y Y (by(simp [Value.oneCell',Value.cells];done)) Wu (by exact (rfl:_=(#[I4 ((n%3:Nat):Int),I4 ((1+n/3%9:Nat):Int),.bool false,I4 0,I4 0,I4 0,.bool false,I4 0,I4 0,I4 0]:AK))) FA (by exact CI _) (by exact BC _))<|A6<|A1<|Zm Y<|Zh 0 C3 rfl rfl AE Y<|Zl AH Y<|Zh 1 C3 rfl rfl AE Y<|Zl AH Y<|Xr [_,_,_] Y call24 Y rfl (rC sp qw qx (B.length:Int) ((n%3:Nat):Int) ((1+n/3%9:Nat):Int) (Bb B) sv zm A0 zi) ?_;obtain ⟨K,sM⟩:∃K,K=Fy (Bb B) ((n%3:Nat):Int) ((1+n/3%9:Nat):Int):=⟨_,rfl⟩;rw [<-sM];refine Zm Y<|Zd Y V<|Zd Y V<|Ze (Al F0 #[_,_,_,_,_])<|AG fun ob=>Xe (Xw B3 #[I4 K.1.t,I4 K.1.k,I4 K.1.v.a,I4 K.1.v.b,I4 K.1.v.c])<|AW Y<|Zn [0,3,4,5,6,7,8,9,10,11,12] ?_;refine Zx<|A1<|Zm Y<|Zh 2 C3 rfl rfl DM Y<|Xe (Zs DM Y Y rfl (hc:=by exact (rfl:_=(#[I4 ((n%3:Nat):Int),I4 ((1+n/3%9:Nat):Int),.bool K.2,I4 0,I4 0,I4 0,.bool false,I4 0,I4 0,I4 0]:AK))) (hi:=by(simp;done)))<|A6<|A1<|Zh 2 G1 rfl rfl Dg Y<|Zo Wh (Pa #[_,_,_] HN Dg Y)<|Zh 3 C3 rfl rfl Dg Y<|Xe (BL Dg Y Y Hb Wu (by exact (rfl:_=(#[I4 ((n%3:Nat):Int),I4 ((1+n/3%9:Nat):Int),.bool K.2,I4 K.1.v.a,I4 K.1.v.b,I4 K.1.v.c,.bool false,I4 0,I4 0,I4 0]:AK))) FA B5 (by exact BC _))<|A6<|Zb [12,0,3,4,5,6,7,8,9,10] ?_;refine CW (e0:=[(12,_)]) (H0:=[[(cb,.cells #[I4 ((n%3:Nat):Int),I4 ((1+n/3%9:Nat):Int),.bool K.2,I4 K.1.v.a,I4 K.1.v.b,I4 K.1.v.c,.bool false,I4 0,I4 0,I4 0] 74 (0,0))]]) (fun e H=>∃(hb:Bool),(hb=uR K.2 m)/\e=[]/\H=[[(cb,.cells #[I4 ((n%3:Nat):Int),I4 ((1+n/3%9:Nat):Int),.bool K.2,I4 K.1.v.a,I4 K.1.v.b,I4 K.1.v.c,.bool hb,I4 0,I4 0,I4 0] 74 (0,0))]]) Wp ?hx_9 ?hy_9
   case hx_9=>
    refine Zg<|Zm Y<|Zv (Bt Y)<|Zm Y<|Ah (t:=77) Y V (fun hh=>?_) (fun hh=>?_);·
     refine A7 Y V<|A7 Y V<|A7 Y V<|Zv (AX Y Y)<|Zh 6 C3 V rfl DM Y<|Xe (Zs DM Y Y V (hi:=by(simp;done)))<|Z0<|Zn [0,3,4,5,6,7,8,9,10] ?_;refine Av (e':=[]) (H':=[[(cb,.cells #[_,_,_,_,_,_,_,_,_,_] 74 (0,0))]]) ?_;exact ⟨_,by unfold uR;(rw [hh];rfl),V,V⟩
    refine Zf Y Y<|GU Y (FX (n:=4) Y Y A0) V rfl ?_;refine Yg (DR (n:=0) Y Y)<|Zv (AL Y Y)<|Zh 6 C3 V rfl DM Y<|Xe (Zs DM Y Y V (hi:=by(simp;done)))<|Z0<|Zn [0,3,4,5,6,7,8,9,10] ?_;refine Av (e':=[]) (H':=[[(cb,.cells #[_,_,_,_,_,_,_,_,_,_] 74 (0,0))]]) ?_;exact ⟨_,by unfold uR;(rw [hh];rfl),V,V⟩
   rintro _ _ ⟨hb,sj,rfl,rfl⟩;refine Zb [9,0,3,4,5,6,7,8,10] ?_;refine CW (e0:=[(9,_)]) (H0:=[[(cb,.cells #[I4 ((n%3:Nat):Int),I4 ((1+n/3%9:Nat):Int),.bool K.2,I4 K.1.v.a,I4 K.1.v.b,I4 K.1.v.c,.bool hb,I4 0,I4 0,I4 0] 74 (0,0))]]) (fun e H=>∃(c:Chg),(c=ji K n m)/\e=[]/\H=[[(cb,.cells c.A70 74 (0,0))]]) Wp ?hx_10 ?hy_10
   case hx_10=>
    refine A1<|Zh 6 C3 V rfl DM Y<|Zl Fk Y<|A6<|AU Y (fun pg=>?_) (fun pg=>?_);·
     refine Zg<|Zm Y<|BU (KM (n:=4) Y Y A0 A0)<|BU (FX (n:=10) Y Y A0)<|Zm Y<|BU (KM (n:=40) Y Y A0 A0)<|BU (FX (n:=9) Y Y A0)<|Ya (m:=1) Y Y<|Zm Y<|BU (KM (n:=400) Y Y A0 A0)<|BU (FX (n:=40) Y Y A0)<|BU (FP Y Y (IntWalk.i64_in _ A0))<|Zv (BM (vs:=[(0,_),(1,_),(2,_)]) (cs:=#[_,_,_]) Y (DL ZS HM AE rfl))<|Zh 7 C3 rfl rfl Dg Y<|Xe (BL Dg Y Y (by(simp [Value.oneCell',Value.cells];done)) Wu B0 FA (by exact CI _) (by exact BC _))<|Z0<|Zn [0,3,4,5,6,7,8,10] ?_;refine Av (e':=[]) (H':=[[(cb,.cells #[_,_,_,_,_,_,_,_,_,_] 74 (0,0))]]) ?_;exact ⟨⟨_,_,_,K.1.v,_,⟨_,_,_⟩⟩,by unfold ji;(rw [<-sj,Ax pg];rfl),V,V⟩
    refine AC<|Zn [0,3,4,5,6,7,8,10] ?_;refine Av (e':=[]) (H':=[[(cb,.cells #[_,_,_,_,_,_,_,_,_,_] 74 (0,0))]]) ?_;exact ⟨⟨_,_,_,K.1.v,_,⟨_,_,_⟩⟩,by unfold ji;(rw [<-sj,pg];rfl),V,V⟩
   rintro _ _ ⟨c,sw,rfl,rfl⟩;have d9:c=Qq (Bb B) n m:=by rw [sw,sM];rfl
   refine A1<|A5 Y<|Zq<|A1<|A5 Y<|AQ<|Zb [13,14,0,3,4,5,6,7,8,10] ?_;refine BI (e0:=[(13,_),(14,_)]) (fun m e H=>∃(j:Nat) (b:Bool),m=cs.length -j/\(j<=cs.length/\b=(cs.take j).any (Ry c))/\e=[(13,.bool b),(14,I4 (j:Int))]/\H=[]) (by exact ⟨0,false,V,⟨C7 _,V⟩,V,V⟩) Wp ?_;rintro _ _ _ ⟨j,b,rfl,⟨hj,I⟩,rfl,rfl⟩;refine Zq<|A1<|Zm Y<|Zm Y<|Zv (Ac Gk Y)<|Zv (Ay Y Y)<|A6<|Aw Y (fun ve=>?_) (fun ve=>?_);·
    refine AC<|Zx<|Zq<|AQ ?_;obtain ⟨y,hy⟩:∃y,cs[j]?=some y:=⟨_,BT ve⟩;obtain ⟨gl,ql,qz,zl,qa,q9,vo,gy⟩:=E5 G A0;injection qa with hv1 hv2 hv3
    subst hv1 q9;obtain ⟨l5,qb⟩:=vN gy hy;refine BA (n:=22) (0::1::3::3::15::31::63::3::131::511::1023::2047::2047::8191::16383::32767::2047::67583::262143::524287::1048575::2097151::[]) 0 AF AF V<|A3 0 V (AO Y)<|A3 1 V (AO Y)<|CU (t:=105) Y (fun ax=>?_) (fun ax=>?_);·
     rw [ax];refine AN 2 V<|AN 3 V<|AN 4 V<|AN 5 V<|AN 6 V<|AN 7 V<|AN 8 V<|AN 9 V<|AN 10 V<|AN 11 V<|AN 12 V<|AN 13 V<|AN 14 V<|AN 15 V<|AN 16 V<|AN 17 V<|AN 18 V<|AN 19 V<|A3 20 V (AX Y Y)<|A3 21 V (Aq Y)<|Ag<|Zn [0,3,4,5,6,7,8,10,13,14] ?_;refine A8<|Zx<|Zg<|Zm Y<|Ya (n:=1) Y Y<|AW Y<|Zn [13,14,0,3,4,5,6,7,8,10] ?_;refine Aa (e':=[(13,_),(14,_)]) (by exact ⟨j+1,_,V,⟨by omega,Xo hy I (by unfold Ry;(simp_all;done))⟩,V,V⟩)
    rw [ax];refine An 2 V (AO Y)<|An 3 V (AO Y)<|An 4 V (Ae Gk CC Y Y A0)<|An 5 V (Ap (off:=0) C3 V rfl AE Y)<|DO 6 V Wh (BF AH Y (by simpa using l5))<|An 7 V (AA (off:=0) C3 V rfl AE Y)<|DO 8 V Wh (BF AH Y B0)<|An 9 V (CP Y Y)<|An 10 V (AO Y)<|DF (t:=114) Y (fun ax=>?_) (fun ax=>?_);·
     rw [DG ax];refine An 11 V (AO Y)<|An 12 V (AO Y)<|An 13 V (Ae Gk CC Y Y A0)<|An 14 V (Ap (off:=1) C3 V rfl AE Y)<|DO 15 V Wh (BF AH Y (by simpa using qb))<|An 16 V (AA (off:=1) C3 V rfl AE Y)<|DO 17 V Wh (BF AH Y B0)<|An 18 V (CP Y Y)<|An 19 V (AX Y Y)<|A3 20 V (AL Y Y)<|A3 21 V (Aq Y)<|Ag<|Zn [0,3,4,5,6,7,8,10,13,14] ?_;refine A8<|Zx<|Zg<|Zm Y<|Ya (n:=1) Y Y<|AW Y<|Zn [13,14,0,3,4,5,6,7,8,10] ?_;refine Aa (e':=[(13,_),(14,_)]) (by exact ⟨j+1,_,V,⟨by omega,Xo hy I (by unfold Ry;(simp_all;done))⟩,V,V⟩)
    rw [Cl ax];refine AN 11 V<|AN 12 V<|AN 13 V<|AN 14 V<|AN 15 V<|AN 16 V<|AN 17 V<|AN 18 V<|An 19 V (AL Y Y)<|A3 20 V (AL Y Y)<|A3 21 V (Aq Y)<|Ag<|Zn [0,3,4,5,6,7,8,10,13,14] ?_;refine A8<|Zx<|Zg<|Zm Y<|Ya (n:=1) Y Y<|AW Y<|Zn [13,14,0,3,4,5,6,7,8,10] ?_;refine Aa (e':=[(13,_),(14,_)]) (by exact ⟨j+1,_,V,⟨by omega,Xo hy I (by unfold Ry;(simp_all;done))⟩,V,V⟩)
   have ej:j=cs.length:=by omega
   subst ej;rw [G3]at I;refine BD<|Zt<|Zt<|AV<|Zx<|Zb [8,13,0,3,4,5,6,7,10] ?_;refine CW (e0:=[(8,_),(13,_)]) (H0:=[]) (fun e H=>(¬FN cs c k n)/\e=[]/\H=[]) Wp ?hx_15 ?hy_15
   case hx_15=>
    refine A1<|Zm Y<|Zm Y<|Ah (t:=126) Y V (fun O=>?_) (fun O=>?_);·
     refine A7 Y V<|A7 Y V<|A7 Y V<|A7 Y V<|A7 Y V<|A7 Y V<|A7 Y V<|A7 Y V<|A7 Y V<|A7 Y V<|A7 Y V<|A7 Y V<|A7 Y V<|Zv (AX Y Y)<|Zm Y<|A7 Y V<|A7 Y V<|A7 Y V<|A7 Y V<|A7 Y V<|A7 Y V<|A7 Y V<|Zv (AX Y Y)<|Z0<|Zn [0,3,4,5,6,7,10,149] ?_;refine Zx<|DT Y<|BD<|Zt<|AV<|Zx<|Zg<|Zm Y<|Ya (n:=1) Y Y<|AW Y<|Zn [6,7,0,3,4,5] ?_;refine Aa (e':=[(6,_),(7,_)]) (by exact ⟨k+1,_,cs,sl,rfl,⟨by omega,by omega,G,KX af X Z ek dn d9 (by first|exact J|(unfold FN;rw [<-I];first|(simp_all;done)|(simp_all;omega)))⟩,rfl,rfl⟩)
    refine Yf 2 C3 V rfl DM Y<|Yl Fk Y<|Zf Y Y<|Ah (t:=129) Y V (fun O=>?_) (fun O=>?_);·
     refine Yf 6 C3 V rfl DM Y<|Yl Fk Y<|Yg (AX Y Y)<|Zf Y Y<|Ah (t:=133) Y V (fun O=>?_) (fun O=>?_);·
      refine Yf 3 C3 V rfl Dg Y<|Dw Y Wh (AB (cs:=#[_,_,_]) HN Dg Y B5 B0) V rfl<|Yf 7 C3 V rfl Dg Y<|Dw Y Wh (Pa #[_,_,_] HN Dg Y) V rfl<|Yg (Kv AF HM D4 AH AE Y Y) ?_;refine Yg (AX Y Y)<|Zv (AL Y Y)<|Zm Y<|Ao (t:=141) Y V (fun O=>?_) (fun O=>?_);·
       refine A7 Y V<|A7 Y V<|A7 Y V<|A7 Y V<|A7 Y V<|A7 Y V<|A7 Y V<|Zv (AX Y Y)<|Z0<|Zn [0,3,4,5,6,7,10,149] ?_;refine Zx<|DT Y<|BD<|Zt<|AV<|Zx<|Zg<|Zm Y<|Ya (n:=1) Y Y<|AW Y<|Zn [6,7,0,3,4,5] ?_;refine Aa (e':=[(6,_),(7,_)]) (by exact ⟨k+1,_,cs,sl,rfl,⟨by omega,by omega,G,KX af X Z ek dn d9 (by first|exact J|(unfold FN;rw [<-I];first|(simp_all;done)|(simp_all;omega)))⟩,rfl,rfl⟩)
      refine Zf Y Y<|Yg (DR (n:=0) Y Y)<|Zf Y Y<|Ao (t:=144) Y V (fun O=>?_) (fun O=>?_);·
       refine Zf Y Y<|GU Y (FX (n:=5) Y Y A0) V rfl ?_;refine Yg (Ci (n:=0) Y Y)<|Yg (AX Y Y)<|Zv (AL Y Y)<|Z0<|Zn [0,3,4,5,6,7,10,149] ?_;refine Zx<|Aw Y (fun gm=>?_) (fun gm=>?_);·
        have J:FN cs c k n:=by unfold FN;rw [<-I];(simp_all;done)
        refine BD<|Zt<|AV<|Zx<|Zg<|Zm Y<|Ya (n:=1) Y Y<|AW Y<|Zn [6,7,0,3,4,5] ?_;refine Aa (e':=[(6,_),(7,_)]) (by exact ⟨k+1,_,cs,sl,rfl,⟨by omega,by omega,G,KX af X Z ek dn d9 (by first|exact J|(unfold FN;rw [<-I];first|(simp_all;done)|(simp_all;omega)))⟩,rfl,rfl⟩)
       have J:¬FN cs c k n:=by unfold FN;rw [<-I];(simp_all;done)
       refine AC<|Zn [0,3,4,5,6,7,10] ?_;refine Av (e':=[]) (by exact ⟨(by exact J),V,V⟩)
      refine A7 Y V<|A7 Y V<|A7 Y V<|Yg (AL Y Y)<|Zv (AL Y Y)<|Z0<|Zn [0,3,4,5,6,7,10,149] ?_;refine Zx<|D9 Y<|AC<|Zn [0,3,4,5,6,7,10] ?_;refine Av (e':=[]) (by exact ⟨(by(unfold FN;rw [<-I];first|(simp_all;done)|(simp_all;omega))),rfl,rfl⟩)
     refine A7 Y V<|A7 Y V<|A7 Y V<|A7 Y V<|A7 Y V<|Yg (AL Y Y)<|Zv (AL Y Y)<|Zm Y<|Zf Y Y<|Yg (DR (n:=0) Y Y)<|Zf Y Y<|Ao (t:=144) Y V (fun O=>?_) (fun O=>?_);·
      refine Zf Y Y<|GU Y (FX (n:=5) Y Y A0) V rfl ?_;refine Yg (Ci (n:=0) Y Y)<|Yg (AX Y Y)<|Zv (AL Y Y)<|Z0<|Zn [0,3,4,5,6,7,10,149] ?_;refine Zx<|Aw Y (fun gm=>?_) (fun gm=>?_);·
       have J:FN cs c k n:=by unfold FN;rw [<-I];(simp_all;done)
       refine BD<|Zt<|AV<|Zx<|Zg<|Zm Y<|Ya (n:=1) Y Y<|AW Y<|Zn [6,7,0,3,4,5] ?_;refine Aa (e':=[(6,_),(7,_)]) (by exact ⟨k+1,_,cs,sl,rfl,⟨by omega,by omega,G,KX af X Z ek dn d9 (by first|exact J|(unfold FN;rw [<-I];first|(simp_all;done)|(simp_all;omega)))⟩,rfl,rfl⟩)
      have J:¬FN cs c k n:=by unfold FN;rw [<-I];(simp_all;done)
      refine AC<|Zn [0,3,4,5,6,7,10] ?_;refine Av (e':=[]) (by exact ⟨(by exact J),V,V⟩)
     refine A7 Y V<|A7 Y V<|A7 Y V<|Yg (AL Y Y)<|Zv (AL Y Y)<|Z0<|Zn [0,3,4,5,6,7,10,149] ?_;refine Zx<|D9 Y<|AC<|Zn [0,3,4,5,6,7,10] ?_;refine Av (e':=[]) (by exact ⟨(by(unfold FN;rw [<-I];first|(simp_all;done)|(simp_all;omega))),rfl,rfl⟩)
    refine A7 Y V<|A7 Y V<|Yg (AL Y Y)<|Zf Y Y<|A7 Y V<|A7 Y V<|A7 Y V<|A7 Y V<|A7 Y V<|Yg (AL Y Y)<|Zv (AL Y Y)<|Zm Y<|Zf Y Y<|Yg (DR (n:=0) Y Y)<|Zf Y Y<|Ao (t:=144) Y V (fun O=>?_) (fun O=>?_);·
     refine Zf Y Y<|GU Y (FX (n:=5) Y Y A0) V rfl ?_;refine Yg (Ci (n:=0) Y Y)<|Yg (AX Y Y)<|Zv (AL Y Y)<|Z0<|Zn [0,3,4,5,6,7,10,149] ?_;refine Zx<|Aw Y (fun gm=>?_) (fun gm=>?_);·
      have J:FN cs c k n:=by unfold FN;rw [<-I];(simp_all;done)
      refine BD<|Zt<|AV<|Zx<|Zg<|Zm Y<|Ya (n:=1) Y Y<|AW Y<|Zn [6,7,0,3,4,5] ?_;refine Aa (e':=[(6,_),(7,_)]) (by exact ⟨k+1,_,cs,sl,rfl,⟨by omega,by omega,G,KX af X Z ek dn d9 (by first|exact J|(unfold FN;rw [<-I];first|(simp_all;done)|(simp_all;omega)))⟩,rfl,rfl⟩)
     have J:¬FN cs c k n:=by unfold FN;rw [<-I];(simp_all;done)
     refine AC<|Zn [0,3,4,5,6,7,10] ?_;refine Av (e':=[]) (by exact ⟨(by exact J),V,V⟩)
    refine A7 Y V<|A7 Y V<|A7 Y V<|Yg (AL Y Y)<|Zv (AL Y Y)<|Z0<|Zn [0,3,4,5,6,7,10,149] ?_;refine Zx<|D9 Y<|AC<|Zn [0,3,4,5,6,7,10] ?_;refine Av (e':=[]) (by exact ⟨(by(unfold FN;rw [<-I];first|(simp_all;done)|(simp_all;omega))),rfl,rfl⟩)
   rintro _ _ ⟨J,rfl,rfl⟩;refine A1<|Zm Y<|Zv (Ac Gk Y)<|A5 Y<|Zb [15,0,3,4,5,6,7,10] ?_;refine CW (e0:=[(15,_)]) (H0:=[]) (fun e H=>∃(j:Nat),(j<=cs.length/\Q0 cs c cs.length=j)/\e=[(15,I4 (j:Int))]/\H=[]) Wp ?hx_27 ?hy_27
   case hx_27=>
    refine AQ<|Zb [15,0,3,4,5,6,7,10] ?_;refine BI (e0:=[(15,_)]) (fun m e H=>∃(j:Nat),m=0+j/\(j<=cs.length/\Q0 cs c j=Q0 cs c cs.length)/\e=[(15,I4 (j:Int))]/\H=[]) (by exact ⟨cs.length,V,⟨CI _,V⟩,V,V⟩) Wp ?_;rintro _ _ _ ⟨j,rfl,⟨hj,U⟩,rfl,rfl⟩;refine Zq<|Zq<|BA (n:=35) (0::1::3::7::7::23::63::127::255::7::519::2047::4095::8191::8191::24575::65535::131071::262143::8191::532479::2097151::4194303::8388607::8388607::25165823::67108863::134217727::268435455::8388607::545259519::2147483647::4294967295::8589934591::17179869183::[]) 0 AF AF V<|A3 0 V (AO Y)<|A3 1 V (DR (n:=0) Y Y)<|A3 2 V (AO Y)<|DF (t:=154) Y (fun ic=>?_) (fun ic=>?_);·
     rw [DG ic];obtain ⟨y,hy⟩:∃y,cs[j -1]?=some y:=⟨_,BT A0⟩;obtain ⟨gl,ql,qz,zl,qa,q9,vo,gy⟩:=E5 G A0;injection qa with hv1 hv2 hv3
     subst hv1 q9;obtain ⟨l5,qb⟩:=vN gy hy;refine An 3 V (AO Y)<|An 4 V (AO Y)<|An 5 V (CO (n:=1) Y Y A0 A0)<|An 6 V (Ae Gk CC Y Y A0)<|An 7 V (Ap (off:=0) C3 V rfl AE Y)<|DO 8 V Wh (BF AH Y (by simpa using l5))<|An 9 V (AA (off:=0) C3 V rfl AE Y)<|DO 10 V Wh (BF AH Y B0)<|An 11 V (Ed Y Y)<|An 12 V (AO Y)<|DF (t:=164) Y (fun bn=>?_) (fun bn=>?_);·
      rw [DG bn];refine AN 13 V<|AN 14 V<|AN 15 V<|AN 16 V<|AN 17 V<|AN 18 V<|AN 19 V<|AN 20 V<|AN 21 V<|AN 22 V<|AN 23 V<|AN 24 V<|AN 25 V<|AN 26 V<|AN 27 V<|AN 28 V<|AN 29 V<|AN 30 V<|AN 31 V<|AN 32 V<|An 33 V (AX Y Y)<|A3 34 V (AX Y Y)<|Ag<|Zn [0,3,4,5,6,7,10,15,186] ?_;refine Zx<|DT Y<|AC<|Zx<|AQ<|Zg<|Zm Y<|Yb (n:=1) Y Y<|AW Y<|A8<|Zn [15,0,3,4,5,6,7,10] ?_;refine Aa (e':=[(15,_)]) (by exact ⟨j -1,V,⟨by omega,(Yh ic hy (by unfold MV;omega)).symm.trans U⟩,V,V⟩)
     rw [Cl bn];refine An 13 V (AO Y)<|An 14 V (AO Y)<|An 15 V (CO (n:=1) Y Y A0 A0)<|An 16 V (Ae Gk CC Y Y A0)<|An 17 V (Ap (off:=0) C3 V rfl AE Y)<|DO 18 V Wh (BF AH Y (by simpa using l5))<|An 19 V (AA (off:=0) C3 V rfl AE Y)<|DO 20 V Wh (BF AH Y B0)<|An 21 V (CP Y Y)<|An 22 V (AO Y)<|DF (t:=174) Y (fun bn=>?_) (fun bn=>?_);·
      rw [DG bn];refine An 23 V (AO Y)<|An 24 V (AO Y)<|An 25 V (CO (n:=1) Y Y A0 A0)<|An 26 V (Ae Gk CC Y Y A0)<|An 27 V (Ap (off:=1) C3 V rfl AE Y)<|DO 28 V Wh (BF AH Y (by simpa using qb))<|An 29 V (AA (off:=1) C3 V rfl AE Y)<|DO 30 V Wh (BF AH Y B0)<|An 31 V (Ed Y Y)<|An 32 V (AX Y Y)<|An 33 V (AL Y Y)<|A3 34 V (AX Y Y)<|Ag<|Zn [0,3,4,5,6,7,10,15,186] ?_;refine Zx<|Aw Y (fun zy=>?_) (fun zy=>?_);·
       refine AC<|Zx<|AQ<|Zg<|Zm Y<|Yb (n:=1) Y Y<|AW Y<|A8<|Zn [15,0,3,4,5,6,7,10] ?_;refine Aa (e':=[(15,_)]) (by exact ⟨j -1,V,⟨by omega,(Yh ic hy (by unfold MV;omega)).symm.trans U⟩,V,V⟩)
      refine BD<|Zt<|Zt<|AV<|Zn [15,0,3,4,5,6,7,10] ?_;refine Av (e':=[(15,_)]) (by exact ⟨j,⟨hj,U.symm.trans (by exact Ye A0 hy (by unfold MV;first|omega|(simp_all;omega)))⟩,rfl,rfl⟩)
     rw [Cl bn];refine AN 23 V<|AN 24 V<|AN 25 V<|AN 26 V<|AN 27 V<|AN 28 V<|AN 29 V<|AN 30 V<|AN 31 V<|An 32 V (AL Y Y)<|An 33 V (AL Y Y)<|A3 34 V (AX Y Y)<|Ag<|Zn [0,3,4,5,6,7,10,15,186] ?_;refine Zx<|D9 Y<|BD<|Zt<|Zt<|AV<|Zn [15,0,3,4,5,6,7,10] ?_;refine Av (e':=[(15,_)]) (by exact ⟨j,⟨hj,U.symm.trans (by exact Ye A0 hy (by unfold MV;first|omega|(simp_all;omega)))⟩,rfl,rfl⟩)
    rw [Cl ic];refine AN 3 V<|AN 4 V<|AN 5 V<|AN 6 V<|AN 7 V<|AN 8 V<|AN 9 V<|AN 10 V<|AN 11 V<|AN 12 V<|AN 13 V<|AN 14 V<|AN 15 V<|AN 16 V<|AN 17 V<|AN 18 V<|AN 19 V<|AN 20 V<|AN 21 V<|AN 22 V<|AN 23 V<|AN 24 V<|AN 25 V<|AN 26 V<|AN 27 V<|AN 28 V<|AN 29 V<|AN 30 V<|AN 31 V<|AN 32 V<|AN 33 V<|A3 34 V (AL Y Y)<|Ag<|Zn [0,3,4,5,6,7,10,15,186] ?_;refine Zx<|D9 Y<|BD<|Zt<|Zt<|AV<|Zn [15,0,3,4,5,6,7,10] ?_;refine Av (e':=[(15,_)]) (by exact ⟨j,⟨hj,U.symm.trans (by exact rW A0)⟩,V,V⟩)
   rintro _ _ ⟨j,⟨hj,Gw⟩,rfl,rfl⟩;refine BA (n:=12) (0::0::0::7::0::16::0::0::192::496::1023::2047::[]) 1568 AF AF V<|A3 0 V (AO Y)<|A3 1 V (AO Y)<|A3 2 V (AO Y)<|A3 3 V (Om Gk CC Y Y Y A0)<|FG 4 V Wh (Pa #[_,_,_,_,_,_,_,_,_,_] GF CC Y)<|A3 6 V (AO Y)<|A3 7 V (AO Y)<|A3 8 V (C8 Gk CC Y Y A0)<|Yw 5 511 V (Ai (vs:=[_]) (cs:=[_,_,_,_,_,_,_,_,_,_]) Gk CC LS Y V rfl V rfl V)<|AG fun gb=>Yw 9 1023 V (BV (by_:=80) (sz:=10) Gk (V:Tryz.prog.info? 74=some Tryz.t74) V rfl V rfl Y (IR 10 74 gb 1 (Cm [c]) V B1) Y (K9 G j (cs.length -j) _ A0) Wo Wo (by exact fun u hu=>PO cs u (KB hu)) A0 A0) ?_;rintro _ _ ⟨Qd,l9,rfl⟩;obtain ⟨MC,Mx,rfl⟩:=l9.form;refine Yw 10 2047 V (Qy (by_:=80) (sz:=10) Gk (V:Tryz.prog.info? 74=some Tryz.t74) V rfl V rfl Y (K8 G j _ hj) Y (j6 l9) Wo Wo A0 A0 A0) ?_;rintro _ _ ⟨Qe,o8,rfl⟩;have vz:=BZ o8 (n':=(cs.take j++[c]++cs.drop j).length) (xs':=Cm (cs.take j++[c]++cs.drop j)) (by simp only [Bm,CD,CH,F2];omega) (by rw [J4,J4,Uk,Ul,CT])
   obtain ⟨ME,MB,rfl⟩:=o8.form;refine A3 11 V (Aq Y)<|Ag<|A8<|Zx<|Zg<|Zm Y<|Ya (n:=1) Y Y<|AW Y<|Zn [6,7,0,3,4,5] ?_;refine Aa (e':=[(6,_),(7,_)]) (by exact ⟨k+1,_,cs.take j++[c]++cs.drop j,_,V,⟨by omega,by simp only [Bm,CD,CH,F2];omega,vz,vK af X Z ek dn d9 J Gw⟩,V,V⟩)
  have l8:cs=GL (Bb B) z 3:=by have e3:k=3:=A0;subst e3;exact af
  refine BD<|Zt<|Zt<|AV<|Zx<|A1<|Zm Y<|Zp Y V<|Zh 1 IH V rfl AE Y<|Zl AH Y<|Ya (n:=1) Y Y<|Zm Y<|Zv (BM (vs:=[(0,_),(1,_)]) (cs:=#[_,_]) Y (AY (pl:=#[(0,1),(1,1)]) TX HE (fun _=>by kernel_rfl) V))<|Ze (Al TX #[_,_])<|AG fun rb=>Xe (BL GC Y Y (by(simp [Value.oneCell',Value.cells];done)) Wu (by exact (rfl:_=(#[I4 ((B.length:Int)+1),.slice gw cs.length cw]:AK))) FA (by exact CI _) (by exact BC _))<|A6<|A1<|Zm Y<|Zo Wh (Pa #[_,_] Iv GC Y)<|Zc [_,_] Y call25 Y rfl (rD sp (B.length:Int) ((B.length:Int)+1) _ (Bb B) sv sl gw cw cs kv (QO G A0) zi Hf A0) ?_;rintro _ _ ⟨_,y5,rfl⟩;rcases y5 with⟨j3,v2,zk,rfl,yt,rfl⟩|⟨j3,rfl,rfl⟩
  ·
   refine AW Y<|Zn [0,3,4,5,16,17] ?_;refine Zx<|A1<|Zm Y<|Zv (Ci (n:=0) Y Y)<|A6<|Aw Y (fun he=>?_) (fun he=>?_);·
    have pq:FC (B++[⟨(B.length:Int)+1,gw,cw,cs⟩]):=cu.snoc j3 (by show cs.length<=3;omega);have pz:(((B++[(⟨(B.length:Int)+1,gw,cw,cs⟩:BQ)]).length:Nat):Int)=(B.length:Int)+1:=by rw [Bm,F2];omega
    have zf:Bd 5 80 v2 (Bb (B++[⟨(B.length:Int)+1,gw,cw,cs⟩])).length (Af (Bb (B++[⟨(B.length:Int)+1,gw,cw,cs⟩]))) zk:=by rw [Gg];exact yt
    have r9:∀r∈B++[(⟨(B.length:Int)+1,gw,cw,cs⟩:BQ)],Cv (MM++sl) (.slice r.q r.cs.length r.cap) r.cs:=by
     intro r hr;rcases C2.1 hr with hr|hr
     · exact Jm (p9 r hr) sl
     · rw [C5.1 hr];exact Gy (QO G A0) MM
    refine Cb (s1:=MM) (s2:=sl) Wo Wo ?_;refine Zg<|Zm Y<|Zo Wh (Pa #[_,_] Iv GC Y)<|Ze (Ai (vs:=[_]) (cs:=[_,_]) HF GC TX Y V rfl V rfl V)<|AG fun gq=>Ze (BV (by_:=32) (sz:=2) HF (V:Tryz.prog.info? 57=some Tryz.t57) V rfl V rfl Y (j5) Y (Dl 2 gq 1 1 57 (0,0) [I4 ((B.length:Int)+1),.slice gw cs.length cw] V) Wo Wo Ft A0 A0) ?_;rintro _ _ ⟨sO,wz,rfl⟩;have y9:=BZ wz (n':=(B++[(⟨(B.length:Int)+1,gw,cw,cs⟩:BQ)]).length) (xs':=Du (B++[⟨(B.length:Int)+1,gw,cw,cs⟩])) (by rw [Bm,F2]) (by rw [Kn];rfl)
    obtain ⟨gO,cO,rfl⟩:=wz.form;refine AW Y<|A8<|Zx<|Zg<|Zm Y<|Ya (n:=1) Y Y<|AW Y<|Zn [3,5,0,4] ?_;refine Aa (e':=[(3,_),(5,_)]) (by exact ⟨i+1,B++[⟨(B.length:Int)+1,gw,cw,cs⟩],_,_,zk,sO,MM++sl,rfl,⟨by omega,pq,by rw [Bm,F2];omega,zf,y9,r9,xY qj p8 l8 j3⟩,rfl,by rw [pz]⟩)
   exact absurd V he
  refine AW Y<|Zn [0,3,4,5,16,17] ?_;refine Zx<|A1<|Zm Y<|Zv (Ci (n:=0) Y Y)<|A6<|Aw Y (fun he=>by cases he)<|fun he=>AC<|A8<|Zx<|Zg<|Zm Y<|Ya (n:=1) Y Y<|AW Y<|Zn [3,5,0,4] ?_;refine Aa (e':=[(3,_),(5,_)]) (by exact ⟨i+1,B,_,_,sv,so,MM,V,⟨by omega,cu,by omega,kv,j5,p9,s7 qj p8 l8 j3⟩,V,V⟩)
 refine BD<|Zt<|Zt<|AV<|Zx<|Zq<|Cb (s1:=so) (s2:=MM) Wo Wo ?_;refine Zg<|Zm Y<|A5 Y<|AJ<|AP rfl results6 Y (by exact ⟨B,_,cu,by omega,by rw [p8,Hx A0],KF j5 A0 p9,rfl⟩)
def aD(n:Int):Prop:=-9223372036854775808<=n/\n<=9223372036854775807
end Go.Proofs.YthhakdmlpngcmaaGreatDoor
namespace Go.Proofs.YthhakdmlpngcmaaGreatDoor
open Go.Proofs.Tryz
open Go Go.RowKit Gw
set_option maxRecDepth 100000
attribute [local irreducible] Gw.At Gw.Nx Gw.Ops
open Go.ChangeShapes Go.WideShapes Go.Deep
theorem pt(g:Addr):g.add 0=g:=by simp [Addr.add]
theorem w9{w:AD}{a:Addr}{v:A4}(h:w.cell? a=some v):a=⟨a.block,a.off,none⟩:=by
 cases a with|mk b o s=>
 cases s with
 |none=>rfl
 |some s=>
  simp only [World.cell?]at h;split at h<;>simp at h
theorem WG{w:AD}{g i:Nat}{v:A4}(h:w.cell? ⟨g,i,none⟩=some v):∃cur T z,w.heap[g]?=some (.cells cur T z)/\cur[i]?=some v:=by
 unfold World.cell? at h;simp only at h;split at h
 · rename_i c T z hc
   exact ⟨c,T,z,hc,by simpa using h⟩
 · cases h
section
variable{H:Type}{enc:AM×A4->H}{P:Program}{w:AD}{base:Nat}{held:Bool}
end
def WW(w:AD):List A9:=(List.range w.heap.size).filterMap fun b=>(w.heap[b]?).map fun o=>(b,o)
theorem Vg{w:AD}{b:Nat}{o:Obj}:(b,o)∈WW w↔w.heap[b]?=some o:=by
 unfold WW;rw [bj];constructor
 · rintro ⟨a,_,m⟩
   obtain ⟨o',g,h2⟩:=lf.1 m;injection h2 with e1 e2
   subst e1 e2;exact g
 · intro h
   refine ⟨b,?_,by rw [h];rfl⟩;rw [Kd];rcases FF b w.heap.size with g|g
   · exact g
   · simp [ID g]at h
theorem bW(w:AD):((WW w).map (·.1)).Nodup:=by
 have:∀l:List Nat,((l.filterMap fun b=>(w.heap[b]?).map fun o=>(b,o)).map (·.1)).Sublist l:=by
  intro l;induction l with
  |nil=>simp
  |cons a l ih=>
   rw [lx];cases h:w.heap[a]?with
   |none=>simp only [Option.map_none];exact ih.cons a
   |some o=>simp only [N2,Dd];exact ih.cons_cons a
 exact ey (this _) iz
def Og(w:AD)(ks:List Nat):List A9:=(WW w).filter fun c=>!ks.contains c.1
theorem Ow{w:AD}{g:List Nat}{b:Nat}{o:Obj}(h:w.heap[b]?=some o)(m:b∉g):(b,o)∈Og w g:=by
 unfold Og;rw [Fc];exact ⟨Vg.2 h,by simp [m]⟩
theorem mh{P:Program}{f:FuncId}{args:AK}{v:A4}{w:AD}(L:List A9)(U:∀c∈L,w.heap[c.1]?=some c.2)(hn:(L.map (·.1)).Nodup){H:Hp}(B:H.flatten=L++Og w (L.map (·.1)))(h:BJ P f args H v):
 Calls P f args w fun e O=>e= .returned v/\Below w.heap.size w O:=by
 have K:Sat w (H++[]) w:=by
  refine ⟨V,V,V,?_,?_⟩
  · rw [D2,B,C0,GW]
    refine ⟨hn,?_,?_⟩;· exact ey (Sp.map _) (bW w)
    · intro a ha b hb e
      subst e;obtain ⟨c,hc,rfl⟩:=C6.1 hb;unfold Og at hc;have:=(Fc.1 hc).2
      simp only [Sx,List.contains_eq_mem,MD]at this;exact this ha
  · intro p I
    rw [D2,B,C2]at I;rcases I with I|I
    · exact U p I
    · exact Vg.1 (Fc.1 I).1
 refine Calls.mono (h w [] w K) fun e O he=>?_;rcases he with⟨v',H',rfl,⟨rfl,rfl⟩,m⟩|⟨_,_,_,hf,_⟩
 · refine ⟨rfl,m.os,m.tape,m.output,?_,?_⟩
   · rcases PB w.heap.size with h0|h0
     · omega
     · have X:w.heap.size -1<w.heap.size:=by omega
       have J:w.heap[w.heap.size -1]?=some w.heap[w.heap.size -1]:=HP X;have:O.heap[w.heap.size -1]?=some w.heap[w.heap.size -1]:=by
        by_cases G:(w.heap.size -1)∈L.map (·.1)
        · obtain ⟨c,hc,G⟩:=C6.1 G
          have g:=m.get c (by rw [D2,B];exact Ek _ hc);have h2:=U c hc
          rw [G]at g h2;rw [g,<-h2,J]
        · exact m.get (_,_) (by rw [D2,B];exact G2 _ (Ow J G))
       rcases FF (w.heap.size -1) O.heap.size with g|g
       · omega
       · rw [ID g]at this;cases this
   · intro k G
     have J:w.heap[k]?=some w.heap[k]:=HP G;by_cases Z:k∈L.map (·.1)
     · obtain ⟨c,hc,rfl⟩:=C6.1 Z
       have g:=m.get c (by rw [D2,B];exact Ek _ hc);rw [g,U c hc]
     · rw [J]
       exact m.get (_,_) (by rw [D2,B];exact G2 _ (Ow J Z))
 · exact hf.elim
theorem Y5{P:Program}{w:AD}{n:String}{g:Nat}{cs:AK}(m:P.globalNamed n=some g)(h:w.var? P n=some cs):∃T z,w.heap[g]?=some (.cells cs T z):=by
 unfold World.var? at h;rw [m,J1]at h;split at h
 · rename_i c T z hc
   injection h with e
   subst e;exact ⟨T,z,hc⟩
 · cases h
theorem uW:Tryz.prog.globalNamed "cachetier/digest.round"=some 4:=by kernel_rfl
theorem zX:(Tryz.prog.globals[4]?).map (·.type)=some 419:=by kernel_rfl
theorem c32:Tryz.prog.cellsOf 295=1:=by kernel_rfl
theorem xi:Tryz.prog.cellsOf 419=64:=by kernel_rfl
theorem pL:Tryz.prog.globalNamed "internal/strconv.uint64pow10"=some 1:=by kernel_rfl
theorem we:(Tryz.prog.globals[1]?).map (·.type)=some 339:=by kernel_rfl
theorem c64:Tryz.prog.cellsOf 297=1:=by kernel_rfl
theorem xo:Tryz.prog.cellsOf 339=20:=by kernel_rfl
def qc:List Int:=Ew.map fun x=>(x.toNat:Int)
theorem dP:(Rows.laid_cachetier_digest_round:DataW Unit)=Lib.tabData .u32 qc:=by kernel_rfl
theorem YR:(qc.map fun z=>Value.int .u32 z).toArray=(Ew.map Cz).toArray:=by kernel_rfl
theorem rV:(Rows.laid_internal_strconv_uint64pow10:DataW Unit)=Lib.tabData .u64 Lib.pow10Tab:=by kernel_rfl
def UD(W:AD)(Tg:AM)(zg:Nat×Nat)(Tp:AM)(zp:Nat×Nat):Prop:=W.heap[4]?=some (.cells (Ew.map Cz).toArray Tg zg)/\W.heap[1]?=some (.cells (Lib.pow10Tab.map fun z=>Value.int .u64 z).toArray Tp zp)
theorem sU{a b:String×DataW Unit}{r:List (String×DataW Unit)}{W:AD}(h:laidMet prog (a::b::("internal/strconv.uint64pow10",Rows.laid_internal_strconv_uint64pow10)::("cachetier/digest.round",Rows.laid_cachetier_digest_round)::r) W):
 ∃Tg zg Tp zp,UD W Tg zg Tp zp:=by
 have h1:=h.tail.tail;have h3:=h1.tail
 rw [rV]at h1;rw [dP]at h3;have h2:=Lib.tabIs_of_head pL we underlying339 XS c64 xo h1
 have h5:=Lib.tabIs_of_head uW zX Vc T6 c32 xi h3;unfold Lib.TabIs at h2 h5;rw [YR]at h5;obtain ⟨Tg,zg,hb⟩:=Y5 uW h5;obtain ⟨Tp,zp,hc⟩:=Y5 pL h2;exact ⟨Tg,zg,Tp,zp,hb,hc⟩
def uI:A4->Bool
 | .string _=>true
 | .slice _ _ _=>true
 | .bool _=>true
 | .int .i64 _=>true
 |_=>false
theorem aL{W:AD}{J K:AM}{O U:Nat×Nat}(G:UD W J O K U)
 {g i:Nat}{cur:AK}{T:AM}{z:Nat×Nat}(B:W.heap[g]?=some (.cells cur T z)){y:A4}(hc:cur[i]?=some y)(I:uI y=true):g∉ [4,1]:=by
 intro m;simp only [DB,Pc,OR]at m;rcases m with m|m
 · subst m
   rw [G.1]at B;injection B with e
   injection e with e1 _ _
   subst e1;rw [dc,DP]at hc;obtain ⟨u,_,rfl⟩:=lf.1 hc;simp [Cz,uI]at I
 · subst m
   rw [G.2]at B;injection B with e
   injection e with e1 _ _
   subst e1;rw [dc,DP]at hc;obtain ⟨u,_,rfl⟩:=lf.1 hc;simp [uI]at I
theorem xk{f:FuncId}{args:AK}{v:A4}{W:AD}{g m:AM}{B G:Nat×Nat}(I:UD W g B m G)
 (h:BJ prog f args [[(4,.cells (Ew.map Cz).toArray g B)],[(1,.cells (Lib.pow10Tab.map fun z=>Value.int .u64 z).toArray m G)],Og W [4,1]] v):
 Calls prog f args W fun e J=>e= .returned v/\Below W.heap.size W J:=
 mh [(4,.cells (Ew.map Cz).toArray g B),(1,.cells (Lib.pow10Tab.map fun z=>Value.int .u64 z).toArray m G)] (by
  intro c hc;simp only [DB,Pc,OR]at hc;rcases hc with rfl|rfl
  · exact I.1
  · exact I.2) B4 B4 h
theorem Jj{α:Type}:∀(n:Nat) (p:Nat->α->Prop),(∀i,i<n->∃o,p i o)->∃os:List α,os.length=n/\∀i o,os[i]?=some o->p i o
 |0,_,_=>⟨[],rfl,fun i o h=>by cases h⟩
 |n+1,p,h=>by
  obtain ⟨os,g,h2⟩:=Jj n p (fun i hi=>h i (by omega));obtain ⟨o,m⟩:=h n (by omega);refine ⟨os++[o],by simp [g],fun i o' hi=>?_⟩;rw [nw]at hi;split at hi;· exact h2 i o' hi
  · rename_i hlt
    have:i=n:=by
     have:=(C4.1 hi).1;simp at this;omega
    subst this;rw [g,T5]at hi;simp only [aw,Wk]at hi;subst hi;exact m
section
variable{H:Type}{enc:AM×A4->H}{P:Program}{W:AD}{base:Nat}{held:Bool}
theorem TF{t e:AM}{s I:Nat}{cs:List A4}{x:DataW H×List MemPlace}(ht:P.underlying t=some (.slice e))(hc:P.cellsOf e=s)(hs:0<s)(h:DataW.trod enc P W base (fun _=>true) held I t cs=some x):
 ∃p len cap,cs=[.slice p len cap]/\(len<=maxLen/\len<=cap)/\∀i,i<len->∃B n z,B.length=s/\DataW.trod enc P W base (fun _=>true) held n e B=some z/\
  ∃g o cur T zz,p=some ⟨g,o,none⟩/\W.heap[g]?=some (.cells cur T zz)/\∀j,j<s->cur[o+i*s+j]?=B[j]?:=by
 rcases open_slice ht h with⟨rfl,_⟩|⟨a,len,cap,m,n,D,Pl,rfl,_,hl,hm,hmm,_,hel⟩
 · exact ⟨none,0,0,rfl,⟨C7 _,CI _⟩,fun i hi=>by omega⟩
 · simp only [Hv]at hmm
   subst hmm;refine ⟨some a,len,m,V,⟨by omega,hl⟩,fun i hi=>?_⟩;have G:a=⟨a.block,a.off,none⟩:=by
    obtain ⟨cs0,Z,_⟩:=hel 0 A0;rw [hc]at Z;obtain ⟨_,af,gg⟩:=World.cells?_some Z;have g9:=gg 0 hs
    rw [BT (l:=cs0) (i:=0) A0,ff,pt,pt]at g9;exact w9 g9
   obtain ⟨B,h1,h2⟩:=hel i A0;rw [hc]at h1;obtain ⟨_,K,hg⟩:=World.cells?_some h1;refine ⟨B,n,_,K,h2,?_⟩;have h9:=hg 0 hs
   rw [BT (l:=B) (i:=0) A0,G,Ca,Ca]at h9;obtain ⟨cur,T,zz,hb,_⟩:=WG h9;refine ⟨a.block,a.off,cur,T,zz,by rw [<-G],hb,fun j hj=>?_⟩;have O:=hg j hj
   rw [BT (l:=B) (i:=j) A0]at O⊢;rw [G,Ca,Ca]at O;obtain ⟨X,T2,ax,J,U⟩:=WG O;rw [hb]at J;injection J with e
   injection e with e1 _ _
   rw [e1];exact U
end
theorem ph:Tryz.prog.cellsOf 3=1:=by kernel_rfl
theorem xl:Tryz.prog.cellsOf 78=6:=by kernel_rfl
theorem Z8{H:Type}{enc:AM×A4->H}{W:AD}{base:Nat}{held:Bool}{Tg Tp:AM}{zg zp:Nat×Nat}(h4:UD W Tg zg Tp zp){I:Nat}{cs:List A4}{x:DataW H×List MemPlace}(h:DataW.trod enc prog W base (fun _=>true) held I 22 cs=some x):
 ∃v xs,cs=[v]/\WN (Og W [4,1]) v xs:=by
 obtain ⟨p,len,cap,rfl,hl,X⟩:=TF eA xl B1 h;obtain ⟨xs,h1,h2⟩:=Jj len (fun i (z:List Int)=>z.length=6/\(∀n∈z,-9223372036854775808<=n/\n<=9223372036854775807)/\∃g o cur T zz,p=some ⟨g,o,none⟩/\(g,Obj.cells cur T zz)∈Og W [4,1]/\∀(j:Nat) (n:Int),z[j]?=some n->cur[o+i*6+j]?=some (I4 n)) (fun i hi=>by
  obtain ⟨B,n,z,cu,ht,g,o,cur,T,zz,hp,hb,hc⟩:=X i hi;obtain ⟨ys,m,_,_,_,d9,hf⟩:=DataW.trod_array underlying78 ht;obtain ⟨ns,bn,U⟩:=Jj 6 (fun j (n:Int)=>(-9223372036854775808<=n/\n<=9223372036854775807)/\B[j]?=some (I4 n)) (fun j G=>by
   have f:=hf j G;rw [ph,Mn,BT A0]at f;have K:j<B.length:=by omega
   have e:(B.drop j).take 1=[B[j]]:=by rw [RR K];rfl
   rw [e]at f;obtain ⟨k,Z,_,af⟩:=DataW.trod_int D4 f;injection Z with Z _
   exact ⟨k,bounds_i64 af,by rw [BT K,Z]⟩)
  have J:∀(j:Nat) (n:Int),ns[j]?=some n->cur[o+i*6+j]?=some (I4 n):=fun j n G=>by
   have cO:=(C4.1 G).1;rw [hc j A0];exact (U j n G).2
  obtain ⟨n0,ax⟩:∃n,ns[0]?=some n:=⟨_,BT A0⟩;exact ⟨ns,bn,fun n O=>by
   obtain ⟨j,G⟩:=HH O;exact (U j n G).1,g,o,cur,T,zz,hp,Ow hb (aL h4 hb (J 0 n0 ax) V),J⟩)
 subst h1;exact ⟨_,xs,V,p,cap,V,hl,h2⟩
open Go.ChangeShapes Go.WideShapes Go.Deep
theorem mW{l:List A4}(h:l.length=5):∃a b c d e,l=[a,b,c,d,e]:=by
 match l,h with
 |[a,b,c,d,e],_=>exact ⟨a,b,c,d,e,rfl⟩
theorem lw{H:Type}{enc:AM×A4->H}{W:AD}{base:Nat}{held:Bool}{B:Nat}{l:List A4}{x:DataW H×List MemPlace}(h:DataW.trod enc prog W base (fun _=>true) held B 36 l=some x)(hl:l.length=5):
 ∃a b c d e:Int,l=[I4 a,I4 b,I4 c,I4 d,I4 e]/\(-9223372036854775808<=a/\a<=9223372036854775807)/\(-9223372036854775808<=b/\b<=9223372036854775807)/\(-9223372036854775808<=c/\c<=9223372036854775807)/\(-9223372036854775808<=d/\d<=9223372036854775807)/\(-9223372036854775808<=e/\e<=9223372036854775807):=by
 obtain ⟨ys,m,_,_,_,af,hf⟩:=DataW.trod_array Lw h;have g:∀j,j<5->∃n:Int,l[j]?=some (I4 n)/\-9223372036854775808<=n/\n<=9223372036854775807:=fun j g=>by
  have f:=hf j g;rw [ph,Mn,BT A0]at f;have G:j<l.length:=by omega
  have e:(l.drop j).take 1=[l[j]]:=by rw [RR G];rfl
  rw [e]at f;obtain ⟨k,X,_,Z⟩:=DataW.trod_int D4 f;injection X with X _
  exact ⟨k,by rw [BT G,X],bounds_i64 Z⟩
 obtain ⟨v0,v1,v2,v3,v4,rfl⟩:=mW hl;obtain ⟨a,ha,I⟩:=g 0 B1;obtain ⟨b,hb,J⟩:=g 1 B1;obtain ⟨c,hc,K⟩:=g 2 B1;obtain ⟨d,hd,O⟩:=g 3 B1;obtain ⟨e,he,U⟩:=g 4 B1;simp at ha hb hc hd he;subst ha hb hc hd he;exact ⟨a,b,c,d,e,V,I,J,K,O,U⟩
end Go.Proofs.YthhakdmlpngcmaaGreatDoor
namespace Go.Proofs.YthhakdmlpngcmaaGreatDoor
open Go.Proofs.Tryz
open Go Go.RowKit Gw
set_option maxRecDepth 100000
attribute [local irreducible] Gw.At Gw.Nx Gw.Ops
def NM(c:Chg):Prop:=(1<=c.k/\c.k<=9)/\(0<=c.t/\c.t<=2)
theorem oU(rs:List AR)(n m:Nat):NM (Qq rs n m):=by
 have g:=fh n (show 0<3 by decide);have h2:=fh (n/3) (show 0<9 by decide)
 refine ⟨⟨?_,?_⟩,?_,?_⟩;· show(1:Int)<=((1+n/3%9:Nat):Int);omega
 · show((1+n/3%9:Nat):Int)<=9;omega
 · show(0:Int)<=((n%3:Nat):Int);omega
 · show((n%3:Nat):Int)<=2;omega
theorem U6(rs:List AR)(z:List Int):∀k,∀c∈GL rs z k,NM c
 |0,c,hc=>by simp [GL]at hc
 |k+1,c,hc=>by
  have g:=U6 rs z k;unfold GL V9 at hc;split at hc;· exact g c hc
  · rw [C2,C2,C5]at hc
    rcases hc with(hc|rfl)|hc
    · exact g c (On hc)
    · exact oU _ _ _
    · exact g c (KB hc)
theorem Vk:∀(xs:List (List Int)) (L:List (List Chg)),(∀cs∈L,∀c∈cs,NM c)->∀cs∈xs.foldl Mq L,∀c∈cs,NM c
 |[],_,h=>h
 |z::xs,L,h=>by
  rw [Up];refine Vk xs _ fun cs g=>?_;unfold Mq at g;split at g
  · rcases C2.1 g with h1|h1
    · exact h cs h1
    · rw [C5.1 h1];exact U6 _ _ 3
  · exact h cs g
theorem tX(xs:List (List Int)):∀cs∈TN xs,∀c∈cs,NM c:=Vk xs [] fun cs h=>by simp at h
def QV(r:AR):Prop:=1<=r.k/\r.k<=9
theorem rP{rs:List AR}{c:Chg}(h:∀r∈rs,QV r)(hc:NM c):∀r∈EL rs c,QV r:=fun r g=>by
 unfold EL at g;rw [C2,C2]at g;rcases g with(g|g)|g
 · exact h r (On g)
 · obtain ⟨_,rfl⟩:=M6.1 g;exact hc.1
 · exact h r (KB (KB g))
theorem Sa:∀(cs:List Chg) (rs:List AR),(∀r∈rs,QV r)->(∀c∈cs,NM c)->∀r∈DV rs cs,QV r
 |[],_,h,_=>h
 |c::cs,rs,h,hc=>Sa cs (EL rs c) (rP h (hc c (E0 ..))) fun d g=>hc d (E7 _ g)
theorem VG:∀(l:List BQ) (rs:List AR),(∀r∈rs,QV r)->(∀x∈l,∀c∈x.cs,NM c)->∀r∈l.foldl (fun rs r=>DV rs r.cs) rs,QV r
 |[],_,h,_=>h
 |x::l,rs,h,hc=>VG l _ (Sa x.cs rs h (hc x (E0 ..))) fun y g=>hc y (E7 _ g)
theorem qR{l:List BQ}(h:∀x∈l,∀c∈x.cs,NM c):∀r∈Bb l,QV r:=VG l [] (fun r g=>by simp at g) h
theorem jm:∀(l:List Int) (a b:Int),l.Pairwise (·<·)->(∀x∈l,a<=x/\x<=b)->(l.length:Int)<=max (b -a+1) 0
 |[],_,_,_,_=>by simp;omega
 |x::l,a,b,hp,h=>by
  obtain ⟨m,h2⟩:=PC.1 hp;have G:=h x (E0 ..)
  have B:=jm l (x+1) b h2 fun y g=>⟨by have:=m y g;omega,(h y (E7 _ g)).2⟩;rw [E3];omega
theorem ww{rs:List AR}(K:BP rs)(I:∀r∈rs,QV r)(t:Int):(rs.filter fun r=>decide (r.t=t)).length<=9:=by
 have m:((rs.filter fun r=>decide (r.t=t)).map (·.k)).Pairwise (·<·):=by
  rw [US];refine List.Pairwise.imp_of_mem ?_ (List.Pairwise.filter _ K);intro a b B G g;have U:=HO (Fc.1 B).2
  have tb:=HO (Fc.1 G).2;rcases g with h|⟨_,h⟩
  · omega
  · exact h
 have h2:=jm _ 1 9 m fun x O=>by
  obtain ⟨r,J,rfl⟩:=C6.1 O;exact I r (Fc.1 J).1
 rw [B6]at h2;omega
theorem Vx{α:Type}{f g:α->Bool}(h:∀x,f x=true->g x=true):∀l:List α,(l.filter f).length<=(l.filter g).length
 |[]=>CI _
 |x::l=>by
  have m:=Vx h l;rw [Wr,Wr];split
  · rename_i h1
    rw [Ax (h x h1),E3,E3];omega
  · split
    · rw [E3];omega
    · exact m
structure nb(l:List BQ):Prop where
 b:O5 l
 nine:∀a,a<=l.length->∀q,(CR (Bb (l.take a)) q).length<=9
theorem xZ{l:List BQ}(G:FC l)(m:l.length<=20){xs:List (List Int)}(J:l.map BQ.cs=TN xs):nb l:=by
 refine ⟨G.toB m,fun a K q=>?_⟩;have g:∀x∈l.take a,∀c∈x.cs,NM c:=fun x O c hc=>tX xs x.cs (by rw [<-J];exact DS (On O)) c hc
 have I:=ww (G.rows a K).1 (qR g) q.tb;have h2:=(ES (Bb (l.take a)) q.tb q.cl.toNat q.lo q.hi).length_eq
 unfold CR;rw [h2];refine Q1 ?_ I;refine Vx (fun r B=>?_) _;unfold inR at B;simp only [GO,G0]at B⊢;exact B.1
theorem nb.rows{l:List BQ}(h:nb l)(q:QM):∀b,b<=l.length->(Cs (Bb (l.take b)) q).rows.length<=18:=fun b g=>by
 have m:=oD (Bb (l.take b)) q;have h2:=h.nine b g q
 omega
structure Stp where
 cl:Int
 a:Int
 b:Int
 c:Int
 d:Int
 e:Int
 n:Int
 t:Int
def Stp.fits(z:Stp):Prop:=(aD z.cl/\aD z.n/\aD z.t)/\aD z.a/\aD z.b/\aD z.c/\aD z.d/\aD z.e
def Stp.q(z:Stp):QM:=GY z.a z.b z.c z.d z.e
theorem Stp.ok(z:Stp):BK z.q:=dW _ _ _ _ _
def jr(M:List A9)(v:A4)(ys:List Stp):Prop:=∃p cap,v= .slice p ys.length cap/\(ys.length<=maxLen/\ys.length<=cap)/\∀(i:Nat) (z:Stp),ys[i]?=some z->z.fits/\∃g off cur T zz,p=some ⟨g,off,none⟩/\(g,Obj.cells cur T zz)∈M/\off+i*8+8<=cur.size/\cur.extract (off+i*8) (off+i*8+8)=#[I4 z.cl,I4 z.a,I4 z.b,I4 z.c,I4 z.d,I4 z.e,I4 z.n,I4 z.t]
theorem zZ{M:List A9}{p:B8}{cap:Nat}{ys:List Stp}(h:jr M (.slice p ys.length cap) ys){i:Nat}{z:Stp}(hz:ys[i]?=some z):z.fits/\∃g off cur T zz,p=some ⟨g,off,none⟩/\(g,Obj.cells cur T zz)∈M/\off+i*8+8<=cur.size/\cur.extract (off+i*8) (off+i*8+8)=#[I4 z.cl,I4 z.a,I4 z.b,I4 z.c,I4 z.d,I4 z.e,I4 z.n,I4 z.t]:=by
 obtain ⟨G,m,e,_,B⟩:=h;injection e with e1 e2 e3
 subst e1;exact B i z hz
theorem uq{cur A:AK}{o n k:Nat}{v:A4}(h:cur.extract o (o+n)=A)(m:o+n<=cur.size)(g:k<n)(hv:A[k]?=some v):cur[o+k]?=some v:=by
 rw [<-h,cL,Ax A0]at hv;exact hv
theorem ul{cur:AK}{a n k m:Nat}{A:AK}(h:cur.extract a (a+n)=A)(g:k+m<=n):cur.extract (a+k) (a+k+m)=A.extract k (k+m):=by
 rw [<-h,Array.extract_extract,N3 A0,fY]
theorem qY{e:AM}(g:Nat)(u v w:A4):Row e (I6 g 3 3) [u,v,w] [(g,.cells #[u,v,w] e (0,0))]:= .inr ⟨g,3,#[u,v,w],(0,0),rfl,rfl,CI 3,by decide,rfl,rfl,BC _⟩
theorem Vn{c:CZ}(h:c.ok)(K:Bk):BR prog 11 #[.pointer (some ⟨c.cp,0,none⟩),.string K] [c.mem] (fun r H'=>∃s,((∃(x:ItM) (G:B8) (B:Nat),x∈c.its/\x.key=K/\r= .tuple #[.agg #[I4 x.q.kd,I4 x.q.tb,I4 x.q.cl,I4 x.q.lo,I4 x.q.hi,I4 x.q.bq,I4 x.q.ot,I4 x.tn,I4 x.base,.slice G x.L.length B],.bool true])\/((∀y∈c.its,y.key≠K)/\r= .tuple #[.agg #[I4 0,I4 0,I4 0,I4 0,I4 0,I4 0,I4 0,I4 0,I4 0,.slice none 0 0],.bool false]))/\H'=[c.mem,s]):=by
 by_cases m:∃x∈c.its,x.key=K
 · obtain ⟨x,m,rfl⟩:=m
   refine (nD h m).mono ?_;rintro r H' ⟨G,B,s,rfl,_,rfl⟩;exact ⟨s,.inl ⟨x,G,B,m,V,V⟩,V⟩
 · have g:∀y∈c.its,y.key≠K:=fun y J I=>m ⟨y,J,I⟩
   refine EJ (nC h g) [] B4 ?_;rintro r H' ⟨rfl,rfl⟩;exact ⟨_,⟨[],.inr ⟨g,V⟩,V⟩,by simp⟩
structure ShI(P:Int)(cap:Int)(sh:List Int)(i:Nat)(c:CZ):Prop where
 ok:c.ok
 pos:c.pos=P
 base:∀x∈c.its,x.base=P
 len:c.its.length<=i
 next:c.next<=(i:Int)
 cap:c.z.cap=cap
 ns:c.ns=3
 sh:UF c sh
theorem ShI.use{P cap:Int}{sh:List Int}{i:Nat}{c:CZ}(h:ShI P cap sh i c):(∀k,0<=Ck c.PL k)/\Ck c.PL 0+Ck c.PL 1+Ck c.PL 2<=cap:=by
 have g:=h.ok.pool;refine ⟨fun k=>(NU g.sz k).1,?_⟩;rw [<-V4 fun e m=>by have:=g.te e m;rw [h.ns]at this;omega];have h2:=g.free
 have B:=g.room;have G:=h.cap
 omega
theorem xC{P cap:Int}{sh:List Int}{i:Nat}{c d:CZ}(h:ShI P cap sh i c)(Z:d.ok)(G:c.like d)(af:d.next<=c.next+1)(K:UF d sh){q:QM}{tn:Int}{L:List RP}{R:CB×Int×Bool}(hR:R.2.2=true){b:Bool}(hP:na c d q tn P L R sh b):
 ShI P cap sh (i+1) d/\(b=true↔∃x∈d.its,x.key=str (Bi q))/\((∃x∈c.its,x.key=str (Bi q))->b=true)/\(b=false\/(∃x∈c.its,x.key=str (Bi q))->d.PL=c.PL)/\∀k,k≠tn->min (Ck c.PL k) (shT sh k)<=Ck d.PL k:=by
 have hl:=h.len;have J:=h.next
 rcases hP with⟨_,_,h1⟩|⟨_,⟨rfl,rfl,x,g,m,_⟩|⟨hold,⟨rfl,_,h4,h5⟩|⟨rfl,_,⟨y,h4,h5,h6,_⟩,b9,h7⟩⟩⟩
 · exact absurd ⟨by rw [h.pos];omega,hR⟩ h1
 · exact ⟨⟨Z,h.pos,h.base,by omega,by push_cast;omega,h.cap,h.ns,K⟩,⟨fun _=>⟨x,g,m⟩,fun _=>rfl⟩,fun _=>rfl,fun _=>rfl,fun k _=>j1 _ _⟩
 · have B:¬∃x∈c.its,x.key=str (Bi q):=fun⟨x,g,m⟩=>by
    have U:=hold x g m;rw [h.base x g]at U;omega
   exact ⟨⟨Z,G.pos.trans h.pos,fun x J=>h.base x (by rw [<-h4];exact J),by rw [h4];omega,by push_cast;omega,G.cap.trans h.cap,G.ns.trans h.ns,K⟩,⟨fun I=>(by cases I),fun I=>absurd (by rw [h4]at I;exact I) B⟩,fun I=>absurd I B,fun _=>h5,fun k _=>by rw [h5];exact j1 _ _⟩
 · have B:∀x∈c.its,x.key≠str (Bi q):=fun x g m=>by
    have U:=hold x g m;rw [h.base x g]at U;omega
   have hK:∀e∈c.PL,e.key≠str (Bi q):=fun e he X=>by
    obtain ⟨y,hy,O⟩:=C6.1 ((h.ok.pk e.key).1 (DS he));exact B y hy (O.trans X)
   have O:y.key=str (Bi q):=by unfold ItM.key;rw [h5]
   refine ⟨⟨Z,G.pos.trans h.pos,fun x J=>?_,?_,by push_cast;omega,G.cap.trans h.cap,G.ns.trans h.ns,K⟩,⟨fun _=>⟨y,by rw [h4];simp,O⟩,fun _=>rfl⟩,fun⟨x,g,m⟩=>absurd m (B x g),fun I=>?_,fun k X=>?_⟩
   · rw [h4]at J
     rcases C2.1 J with J|J
     · exact h.base x (Ky.1 J).1
     · rw [C5.1 J];exact h6
   · rw [h4,Bm,F2]
     have:=Z9 (KT sh c.z.cap c.PL (str (Bi q)) (tnE c (str (Bi q)) tn) (1+(R.1.rows.length:Int))) c.its;omega
   · rcases I with I|⟨x,g,m⟩
     · cases I
     · exact absurd m (B x g)
   · rw [h7,GM,Wj B]
     have U:=lH (sh:=sh) (cap:=c.z.cap) (sz:=1+(R.1.rows.length:Int)) X h.ok.pool.keys hK;have I:Ck [(⟨b9,str (Bi q),tn,1+(R.1.rows.length:Int)⟩:Bf)] k=0:=by
      rw [FU,As (fun e=>X e.symm)];rfl
     omega
theorem wb(L:List Bf){k:Nat}(g:k<3):(#[I4 (Ck L ((0:Nat):Int)),I4 (Ck L ((1:Nat):Int)),I4 (Ck L ((2:Nat):Int))]:AK)[k]?=some (I4 (Ck L (k:Int))):=by
 rcases (by omega:k=0\/k=1\/k=2)with rfl|rfl|rfl<;>rfl
theorem sh3(a b c:Int){k:Nat}(g:k<3):(#[I4 a,I4 b,I4 c]:AK)[k]?=some (I4 (shT [a,b,c] (k:Int))):=by
 rcases (by omega:k=0\/k=1\/k=2)with rfl|rfl|rfl<;>rfl
set_option maxHeartbeats 4000000 in
theorem qI{Mx:List A9}{vx:A4}{xs:List (List Int)}(hX:WN Mx vx xs)(cp:Int)(gm:-9223372036854775808<=cp)(gq:cp<=9223372036854775807){vy:A4}{ys:List Stp}(hY:jr Mx vy ys)(Tg:AM)(zg:Nat×Nat)(Tp:AM)(zp:Nat×Nat):BJ prog 3 #[vx,I4 cp,vy] [[(4,.cells (Ew.map Cz).toArray Tg zg)],[(1,.cells (Lib.pow10Tab.map fun z=>Value.int .u64 z).toArray Tp zp)],Mx] (.bool true):=by
 have zt:=mL;obtain ⟨px,sw,rfl,⟨vw,vz⟩,zf⟩:=id hX;have pg:=qH hX (min xs.length 12) (Nat.min_le_left _ _)
 have G:(xs.take (min xs.length 12)).length<=12:=by rw [CD];omega
 obtain ⟨py,sJ,rfl,⟨wo,wz⟩,zi⟩:=id hY;refine Se func3 ntmps3 [0,1,2] ?_;intro u R;refine A1<|A5 Y<|A1<|Xr [] Y call5 Y V (zw Tg zg Tp zp)<|A5 Y<|A1<|Zm Y<|Zm Y<|Zv (Ac eA Y)<|Zv (Q6 (n:=12) Y Y)<|BU (Bq eA sizeOf78 Y Y A0)<|Zc [_] Y call6 Y V (xJ pg A0) ?_;rintro _ _ ⟨_,⟨l,sl,ax,zm,qa,dn,rfl⟩,rfl⟩;have vo:l.length<=12:=by omega
 have hK:=xZ ax A0 qa;have hB:=hK.b
 obtain ⟨pl,cl,rfl,zl,zb⟩:=id dn;refine A5 Y<|A1<|Zm Y<|Xr [_,_] Y call7 Y V (Ht cp 30 B1 B1 gm gq) ?_;have zu:=Dv cp 30 B1
 refine Ya (m:=6) Y Y<|AW Y<|Zn [1,2,7,8] ?_;refine Zx<|Zq ?_;obtain ⟨O,p9⟩:∃C:Int,C=((6+CF cp 30:Nat):Int):=⟨_,rfl⟩;rw [<-p9];have za:6<=O/\O<=35:=by omega
 refine Zg<|Zm Y<|Zv (Yv (m:=O) (n:=3) Y Y B1 (IntWalk.i64_in _ (by have:=K7 (z:=O) 3 B1 A0 A0;omega)))<|Zm Y<|Zv (Yv (m:=O) (n:=4) Y Y B1 (IntWalk.i64_in _ (by have:=K7 (z:=O) 4 B1 A0 A0;omega)))<|Ze (Ai (vs:=[_,_,_]) (cs:=[_,_,_]) DE AE HJ Y V rfl V rfl V)<|AG fun gs=>A5 Y<|Zq ?_;obtain ⟨s1,kv⟩:∃s:Int,s=O.tdiv 3:=⟨_,rfl⟩;obtain ⟨s2,l5⟩:∃s:Int,s=O.tdiv 4:=⟨_,rfl⟩;rw [<-kv,<-l5];rw [qn A0]at kv l5;have Gl:2<=s1/\s1<=12/\1<=s2/\s2<=8/\s1+s2+1<=O:=by omega
 have yt:=hB.len;refine Zg<|Zm Y<|Zv (Ac HF Y)<|Zm Y<|Zm Y<|Zc [_,_,_] Y call8 Y V (zI (sh:=[s1,s2,1]) (qY gs (I4 s1) (I4 s2) (I4 1)) (l.length:Int) O ⟨by omega,by omega⟩ ⟨by omega,by omega⟩ B4 Hi Hi) ?_;rintro _ _ ⟨_,⟨c0,rfl,pq,⟨af,sO,MK⟩,qj,j5,bn,cu,l8,rfl⟩,rfl⟩;refine Zm Y<|Zd Y V<|Zd Y V<|Za Y<|AW Y<|Zn [1,2,7,8,9,10,11] ?_;refine Zx<|Zq<|A1<|Zm Y<|Zv (FY (n:=0) Y Y)<|A6<|Aw Y (fun k1=>?_) (fun k1=>?_);·
  exact absurd V k1
 refine AC<|Zx<|Zq<|A1<|A5 Y<|AQ<|Zb [12,1,2,7,8,9,10] ?_;refine BI (e0:=[(12,_)]) (fun m e H=>∃(i:Nat) (c:CZ),m=ys.length -i/\((i<=ys.length/\i<=30)/\ShI (l.length:Int) O [s1,s2,1] i c/\c.cp=c0.cp)/\e=[(12,I4 (i:Int))]/\H=[c.mem]) (by exact ⟨0,c0,rfl,⟨⟨C7 _,C7 _⟩,⟨pq,qj,(fun x X=>by rw [af]at X;cases X),by rw [af];exact C7 _,by rw [j5];exact V2 _,cu,bn,l8,bn.symm,by simp;omega⟩,rfl⟩,rfl,rfl⟩) Wp ?_;rintro _ _ _ ⟨i,c,rfl,⟨⟨hi,ve⟩,I,q9⟩,rfl,rfl⟩;refine Zq<|A1<|Zm Y<|Zm Y<|Zv (Ac kB Y)<|Zv (Ay Y Y)<|Zm Y<|Ao (t:=53) Y V (fun h1=>?_) (fun h1=>?_);·
  refine Zf Y Y<|Yg (Ay (n:=30) Y Y)<|Zv (AX Y Y)<|A6<|Aw Y (fun h2=>?_) (fun h2=>?_);·
   obtain ⟨B,sj⟩:∃z,ys[i]?=some z:=⟨_,BT A0⟩;obtain ⟨⟨⟨_,_,o9,p8⟩,⟨f1,f2⟩,⟨f3,f4⟩,⟨f5,f6⟩,⟨f7,f8⟩,f9,o8⟩,gy,y5,sM,Ty,zy,ql,j3,l9,Z⟩:=zZ hY sj;have qo:=ul (k:=1) (m:=5) Z B1
   have r9:=uq (k:=7) Z l9 B1 rfl;rw [ql,<-q9];refine AC<|Zx<|Zq<|AQ<|A1<|Zm Y<|Zm Y<|BU (Ae kB sizeOf38 Y Y A0)<|Zv (Ap (off:=1) underlying38 V rfl sizeOf36 Y)<|CS (IX Wo (j3)) (AB (cs:=#[_,_,_,_,_]) isAgg36 sizeOf36 Y A0 qo) V rfl<|Xr [_] Y call9 Y V (rE B.a B.b B.c B.d B.e f1 f2 f3 f4 f5 f6 f7 f8 f9 o8)<|Ze (Al Lz #[_,_,_,_,_,_,_])<|AG fun bq=>Xe (Xw CM B.q.A72)<|Z0<|Zn [1,2,7,8,9,10,12,13] ?_;refine Zx<|A1<|Zm Y<|Zm Y<|BU (Ae kB sizeOf38 Y Y A0)<|Zv (Ap (off:=7) underlying38 V rfl AE Y)<|CS (IX Wo (j3)) (BF AH Y r9) V rfl<|Xr [_,_] Y call7 Y V (Ht B.t 3 B1 B1 o9 p8) ?_;have FT:=Dv B.t 3 B1
   refine A5 Y<|A1<|Zo Wh (AB (cs:=B.q.A72) F1 CM Y (by exact CI _) (BN V))<|Xr [_] Y call10 Y V (Kq B.q B.ok Tp zp)<|Zm Y<|Zd Y V<|Zd Y V<|Za Y<|AW Y<|Zn [1,2,7,8,9,10,12,13,14,15] ?_;refine Zx<|Zb [1,2,7,8,9,10,12,13,14,15] ?_;refine CW (e0:=[]) (H0:=[]) (fun e H=>∃(kn:Bool),(kn=true↔∃x∈c.its,x.key=str (Bi B.q))/\e=[(18,.bool kn)]/\H=[]) Wp ?hx_2 ?hy_2
   case hx_2=>
    refine Zg<|Zm Y<|Zm Y<|Zc [_,_] Y call11 Y V (Vn I.ok (str (Bi B.q))) ?_;rintro _ _ ⟨_,⟨sE,hE,rfl⟩,rfl⟩;rcases hE with⟨x,pz,cz,X,G,rfl⟩|⟨hno,rfl⟩
    ·
     refine Zm Y<|Zd Y V<|Zd Y V<|Ze (Al Th #[_,_,_,_,_,_,_,_,_,_])<|AG fun bz=>Xe (Xw HG #[I4 x.q.kd,I4 x.q.tb,I4 x.q.cl,I4 x.q.lo,I4 x.q.hi,I4 x.q.bq,I4 x.q.ot,I4 x.tn,I4 x.base,.slice pz x.L.length cz])<|AW Y<|Zn [18,1,2,7,8,9,10,12,13,14,15] ?_;refine Av (e':=[(18,_)]) (by exact ⟨true,⟨fun _=>⟨x,X,G⟩,fun _=>rfl⟩,V,V⟩)
    refine Zm Y<|Zd Y V<|Zd Y V<|Ze (Al Th #[_,_,_,_,_,_,_,_,_,_])<|AG fun bz=>Xe (Xw HG #[I4 0,I4 0,I4 0,I4 0,I4 0,I4 0,I4 0,I4 0,I4 0,.slice none 0 0])<|AW Y<|Zn [18,1,2,7,8,9,10,12,13,14,15] ?_;refine Av (e':=[(18,_)]) (by exact ⟨false,⟨fun h9=>(by cases h9),fun⟨x,X,G⟩=>absurd G (hno x X)⟩,rfl,rfl⟩)
   rintro _ _ ⟨kn,cO,rfl,rfl⟩;obtain ⟨d9,Gw⟩:=I.use;have Hf:=d9 0
   have HZ:=d9 1;have KS:=d9 2
   refine A1<|Zm Y<|Xr [_,_] Y SR Y rfl (LZ (k:=0) I.ok.tookb (by rw [I.ns];decide))<|Zm Y<|Xr [_,_] Y SR Y rfl (LZ (k:=1) I.ok.tookb (by rw [I.ns];decide))<|Zm Y<|Xr [_,_] Y SR Y rfl (LZ (k:=2) I.ok.tookb (by rw [I.ns];decide))<|Zv (BM (vs:=[(0,I4 (Ck c.PL ((0:Nat):Int))),(1,I4 (Ck c.PL ((1:Nat):Int))),(2,I4 (Ck c.PL ((2:Nat):Int)))]) (cs:=#[I4 (Ck c.PL ((0:Nat):Int)),I4 (Ck c.PL ((1:Nat):Int)),I4 (Ck c.PL ((2:Nat):Int))]) Y (DL ZS HM AE AF))<|Ze (Al ZS #[_,_,_])<|AG fun bf=>Xe (Xw Dg #[I4 (Ck c.PL ((0:Nat):Int)),I4 (Ck c.PL ((1:Nat):Int)),I4 (Ck c.PL ((2:Nat):Int))])<|A6<|A1<|Zm Y<|Zm Y<|Zm Y<|Zv (Ac HF Y)<|Zo Wh (AB (cs:=B.q.A72) F1 CM Y (by exact CI _) (BN V))<|Zm Y<|Zc [_,_,_,_] Y call14 Y V (XW dn ax A0 l.length (CI _) B.ok (hB.scan _ (CI _) _) (CF B.t 3:Int) Tg zg) ?_;rintro _ _ ⟨_,⟨E1,MP,y9,ek,rfl,rfl⟩,rfl⟩;refine Zc [_,_] Y call13 Y rfl (jU I.ok B.ok (k:=CF B.t 3) (by rw [I.ns];omega) A0 (l.length:Int) ⟨by omega,by omega⟩ ek (by have:=hB.make_len (CI _) B.q;omega) (hB.fits (CI _) B.q) (hB.start (CI _) B.ok) (by have:=I.next;omega) (by have:=I.len;omega) I.sh Tp zp) ?_;rintro _ _ ⟨_,⟨b,d,rfl,hd,ic,qb,qx,hP,rfl⟩,rfl⟩;obtain ⟨g,t1,t2,t3,t4⟩:=xC I hd ic qb.2 qx (by rw [I.pos,K5 (V2 _)];rfl) hP;rw [<-ic.cp];refine AW Y<|Zn [1,2,7,8,9,10,12,14,15,18,19,20] ?_;refine Zx<|Zb [15,1,2,7,8,9,10,12,14,18,19,20] ?_;refine CW (e0:=[(15,_)]) (H0:=[]) (fun e H=>∃(kn:Bool),(kn=true↔∃x∈d.its,x.key=str (Bi B.q))/\e=[(22,.bool kn)]/\H=[]) Wp ?hx_5 ?hy_5
   case hx_5=>
    refine Zg<|Zm Y<|Zm Y<|Zc [_,_] Y call11 Y V (Vn g.ok (str (Bi B.q))) ?_;rintro _ _ ⟨_,⟨sE,hE,rfl⟩,rfl⟩;rcases hE with⟨x,pz,cz,X,G,rfl⟩|⟨hno,rfl⟩
    ·
     refine Zm Y<|Zd Y V<|Zd Y V<|Ze (Al Th #[_,_,_,_,_,_,_,_,_,_])<|AG fun bw=>Xe (Xw HG #[I4 x.q.kd,I4 x.q.tb,I4 x.q.cl,I4 x.q.lo,I4 x.q.hi,I4 x.q.bq,I4 x.q.ot,I4 x.tn,I4 x.base,.slice pz x.L.length cz])<|AW Y<|Zn [22,1,2,7,8,9,10,12,14,18,19,20] ?_;refine Av (e':=[(22,_)]) (by exact ⟨true,⟨fun _=>⟨x,X,G⟩,fun _=>rfl⟩,V,V⟩)
    refine Zm Y<|Zd Y V<|Zd Y V<|Ze (Al Th #[_,_,_,_,_,_,_,_,_,_])<|AG fun bw=>Xe (Xw HG #[I4 0,I4 0,I4 0,I4 0,I4 0,I4 0,I4 0,I4 0,I4 0,.slice none 0 0])<|AW Y<|Zn [22,1,2,7,8,9,10,12,14,18,19,20] ?_;refine Av (e':=[(22,_)]) (by exact ⟨false,⟨fun h9=>(by cases h9),fun⟨x,X,G⟩=>absurd G (hno x X)⟩,rfl,rfl⟩)
   rintro _ _ ⟨th,qz,rfl,rfl⟩;obtain rfl:th=b:=by rw [Bool.eq_iff_iff,qz,t1]
   have MB:Ck d.PL ((0:Nat):Int)+Ck d.PL ((1:Nat):Int)+Ck d.PL ((2:Nat):Int)<=O:=g.use.2;have MC:=g.use.1 ((0:Nat):Int)
   have ME:=g.use.1 ((1:Nat):Int);have MJ:=g.use.1 ((2:Nat):Int)
   refine Zq<|Zb [22,1,2,7,8,9,10,12,14,18,19,20] ?_;refine CW (e0:=[(22,_)]) (H0:=[]) (fun e H=>∃(t:Bool),(t=false)/\e=[(124,.bool t)]/\H=[]) Wp ?hx_8 ?hy_8
   case hx_8=>
    refine Zg<|Zm Y<|Zm Y<|Zv (JF N6 Y Y)<|Zm Y<|Ah (t:=106) Y V (fun a1=>?_) (fun a1=>?_);·
     simp at a1
    refine Zf Y Y<|Xr [_,_] Y SR Y rfl (LZ (k:=0) g.ok.tookb (by rw [g.ns];decide))<|Zf Y Y<|Xr [_,_] Y SR Y rfl (LZ (k:=1) g.ok.tookb (by rw [g.ns];decide))<|GU Y (Gm Y Y (IntWalk.i64_in _ A0)) rfl rfl ?_;refine Zf Y Y<|Xr [_,_] Y SR Y rfl (LZ (k:=2) g.ok.tookb (by rw [g.ns];decide))<|GU Y (Gm Y Y (IntWalk.i64_in _ A0)) rfl rfl ?_;refine Zf Y Y<|Yg (Ed Y Y)<|Zv (AL Y Y)<|Zm Y<|Ao (t:=118) Y V (fun a2=>by omega)<|fun a2=>Zf Y Y<|Zf Y Y<|Ah (t:=120) Y V (fun a3=>?_) (fun a3=>?_);·
     obtain rfl:th=true:=t2 (cO.1 a3);refine Zf Y Y<|Yg (Bt Y)<|Yg (AX Y Y)<|Zv (AL Y Y)<|Z0<|Zn [124,1,2,7,8,9,10,12,14,18,19,20] ?_;refine Av (e':=[(124,_)]) (by exact ⟨_,V,V,V⟩)
    refine A7 Y V<|A7 Y V<|Yg (AL Y Y)<|Zv (AL Y Y)<|Z0<|Zn [124,1,2,7,8,9,10,12,14,18,19,20] ?_;refine Av (e':=[(124,_)]) (by exact ⟨_,V,V,V⟩)
   rintro _ _ ⟨_,rfl,rfl,rfl⟩;refine D9 Y<|AC<|Zx<|A1<|A5 Y<|AQ<|Zb [23,1,2,7,8,9,10,12,14,18,19,20] ?_;refine BI (e0:=[(23,_)]) (fun m e H=>∃(k:Nat),m=3 -k/\(k<=3)/\e=[(23,I4 (k:Int))]/\H=[]) (by exact ⟨0,V,C7 _,V,V⟩) Wp ?_;rintro _ _ _ ⟨k,rfl,zk,rfl,rfl⟩;refine Zq<|A1<|Zm Y<|Zv (Ay (n:=3) Y Y)<|A6<|Aw Y (fun hk=>?_) (fun hk=>?_);·
    have J:k<3:=by omega
    have qw:=sh3 s1 s2 1 J;have U:=wb c.PL J
    refine AC<|Zx<|Zq<|AQ<|Zb [1,2,7,8,9,10,12,14,18,19,20,23] ?_;refine CW (e0:=[]) (H0:=[]) (fun e H=>∃(t:Bool),(t=false)/\e=[(161,.bool t)]/\H=[]) Wp ?hx_12 ?hy_12
    case hx_12=>
     refine BA (n:=33) (0::0::3::7::15::15::63::15::143::399::15::15::3087::7183::16271::32767::65535::131071::262143::524287::1048575::2097151::4194303::8388607::16777215::16777215::67108863::16777215::150994943::419430399::1073741823::2147483647::4294967295::[]) 67108928 AF AF V<|A3 0 V (AO Y)<|A3 1 V (AO Y)<|A3 2 V (FY Y Y)<|A3 3 V (AO Y)<|DF (t:=132) Y (fun b1=>?_) (fun b1=>?_);·
      rw [DG b1];have t5:=t4 (k:Int) A0
      refine An 4 rfl (AO Y)<|An 5 rfl (AO Y)<|An 7 rfl (AO Y)<|An 8 rfl (Az HM AE Y Y (by first|omega|decide|exact CI _|(simp;done)|(simp;omega)))<|DO 9 rfl Wh (BF AH Y U)<|An 10 rfl (AO Y)<|An 11 rfl (AO Y)<|An 12 rfl (Be DE AE Y Y (by first|omega|decide|exact CI _|(simp;done)|(simp;omega)))<|DO 13 rfl Wh (BF AH Y qw)<|An 14 rfl (lY Y Y)<|Yz 6 63 32767 [13,9] [true,true] [(13,(_,_)),(9,(_,_))] rfl Y rfl rfl rfl rfl (Zu [_,_] Y SR Y rfl (LZ (k:=k) g.ok.tookb (by rw [g.ns];exact J)))<|Cp<|BW<|An 15 V (EH Y Y)<|A3 16 V (AX Y Y)<|A3 17 V (AO Y)<|DF (t:=146) Y (fun b2=>?_) (fun b2=>?_);·
       rw [DG b2];exfalso;omega
      rw [Cl b2];refine An 18 V (AO Y)<|An 19 V (Bt Y)<|An 20 V (AO Y)<|CU (t:=149) Y (fun b3=>?_) (fun b3=>?_);·
       rw [b3];have t6:=t3 (.inl (by simpa using b3))
       refine AN 21 rfl<|An 22 rfl (AX Y Y)<|An 23 rfl (AO Y)<|An 24 rfl (AO Y)<|An 25 rfl (AO Y)<|An 27 rfl (AO Y)<|An 28 rfl (Az HM AE Y Y (by first|omega|decide|exact CI _|(simp;done)|(simp;omega)))<|DO 29 rfl Wh (BF AH Y U)<|Yz 26 67108863 1073741823 [29,13,9] [true,false,false] [(29,(_,_))] rfl Y rfl rfl rfl rfl (Zu [_,_] Y SR Y rfl (LZ (k:=k) g.ok.tookb (by rw [g.ns];exact J)))<|Cp<|BW<|An 30 V (Im Y Y)<|An 31 V (AX Y Y)<|A3 32 V (AL Y Y)<|Ag<|Zn [161,1,2,7,8,9,10,12,14,18,19,20,23] ?_;refine Av (e':=[(161,_)]) (by exact ⟨_,by simp [t6],V,V⟩)
      rw [b3];refine An 21 V (AO Y)<|An 22 V (AL Y Y)<|An 23 V (AO Y)<|CU (t:=152) Y (fun K=>?_) (fun K=>?_);·
       rw [K];have t6:d.PL=c.PL:=t3 (by exact .inr (cO.1 K))
       refine An 24 rfl (AO Y)<|An 25 rfl (AO Y)<|An 27 rfl (AO Y)<|An 28 rfl (Az HM AE Y Y (by first|omega|decide|exact CI _|(simp;done)|(simp;omega)))<|DO 29 rfl Wh (BF AH Y U)<|Yz 26 67108863 1073741823 [29,13,9] [true,false,false] [(29,(_,_))] rfl Y rfl rfl rfl rfl (Zu [_,_] Y SR Y rfl (LZ (k:=k) g.ok.tookb (by rw [g.ns];exact J)))<|Cp<|BW<|An 30 V (Im Y Y)<|An 31 V (AX Y Y)<|A3 32 V (AL Y Y)<|Ag<|Zn [161,1,2,7,8,9,10,12,14,18,19,20,23] ?_;refine Av (e':=[(161,_)]) (by exact ⟨_,by simp [t6],V,V⟩)
      rw [K];refine AN 24 V<|AN 25 V<|AN 26 V<|AN 27 V<|AN 28 V<|AN 29 V<|AN 30 V<|An 31 V (AL Y Y)<|A3 32 V (AL Y Y)<|Ag<|Zn [161,1,2,7,8,9,10,12,14,18,19,20,23] ?_;refine Av (e':=[(161,_)]) (by exact ⟨_,V,V,V⟩)
     rw [Cl b1];refine AN 4 V<|AN 5 V<|AN 6 V<|AN 7 V<|AN 8 V<|AN 9 V<|AN 10 V<|AN 11 V<|AN 12 V<|AN 13 V<|AN 14 V<|AN 15 V<|A3 16 V (AL Y Y)<|A3 17 V (AO Y)<|An 18 V (AO Y)<|An 19 V (Bt Y)<|An 20 V (AO Y)<|CU (t:=149) Y (fun K=>?_) (fun K=>?_);·
      rw [K];have t6:d.PL=c.PL:=t3 (by exact .inl (by simpa using K))
      refine AN 21 rfl<|An 22 rfl (AX Y Y)<|An 23 rfl (AO Y)<|An 24 rfl (AO Y)<|An 25 rfl (AO Y)<|An 27 rfl (AO Y)<|An 28 rfl (Az HM AE Y Y (by first|omega|decide|exact CI _|(simp;done)|(simp;omega)))<|DO 29 rfl Wh (BF AH Y U)<|Yz 26 67108863 1073741823 [29] [true] [(29,(_,_))] rfl Y rfl rfl rfl rfl (Zu [_,_] Y SR Y rfl (LZ (k:=k) g.ok.tookb (by rw [g.ns];exact J)))<|Cp<|BW<|An 30 V (Im Y Y)<|An 31 V (AX Y Y)<|A3 32 V (AL Y Y)<|Ag<|Zn [161,1,2,7,8,9,10,12,14,18,19,20,23] ?_;refine Av (e':=[(161,_)]) (by exact ⟨_,by simp [t6],V,V⟩)
     rw [K];refine An 21 V (AO Y)<|An 22 V (AL Y Y)<|An 23 V (AO Y)<|CU (t:=152) Y (fun K=>?_) (fun K=>?_);·
      rw [K];have t6:d.PL=c.PL:=t3 (by exact .inr (cO.1 K))
      refine An 24 rfl (AO Y)<|An 25 rfl (AO Y)<|An 27 rfl (AO Y)<|An 28 rfl (Az HM AE Y Y (by first|omega|decide|exact CI _|(simp;done)|(simp;omega)))<|DO 29 rfl Wh (BF AH Y U)<|Yz 26 67108863 1073741823 [29] [true] [(29,(_,_))] rfl Y rfl rfl rfl rfl (Zu [_,_] Y SR Y rfl (LZ (k:=k) g.ok.tookb (by rw [g.ns];exact J)))<|Cp<|BW<|An 30 V (Im Y Y)<|An 31 V (AX Y Y)<|A3 32 V (AL Y Y)<|Ag<|Zn [161,1,2,7,8,9,10,12,14,18,19,20,23] ?_;refine Av (e':=[(161,_)]) (by exact ⟨_,by simp [t6],V,V⟩)
     rw [K];refine AN 24 V<|AN 25 V<|AN 26 V<|AN 27 V<|AN 28 V<|AN 29 V<|AN 30 V<|An 31 V (AL Y Y)<|A3 32 V (AL Y Y)<|Ag<|Zn [161,1,2,7,8,9,10,12,14,18,19,20,23] ?_;refine Av (e':=[(161,_)]) (by exact ⟨_,V,V,V⟩)
    rintro _ _ ⟨_,rfl,rfl,rfl⟩;refine D9 Y<|AC<|A8<|Zx<|Zg<|Zm Y<|Ya (n:=1) Y Y<|AW Y<|Zn [23,1,2,7,8,9,10,12,14,18,19,20] ?_;refine Aa (e':=[(23,_)]) (by exact ⟨k+1,V,by omega,V,V⟩)
   refine BD<|Zt<|Zt<|AV<|A8<|Zx<|Zg<|Zm Y<|Ya (n:=1) Y Y<|AW Y<|Zn [12,1,2,7,8,9,10] ?_;refine Aa (e':=[(12,_)]) (by exact ⟨i+1,d,V,⟨⟨by omega,by omega⟩,g,by rfl⟩,V,V⟩)
  refine BD<|Zt<|Zt<|AV<|Zx<|A1<|Zm Y<|A5 Y<|AJ<|AP V results3 Y (by exact ⟨V,V⟩)
 refine A7 Y V<|A7 Y V<|Zv (AL Y Y)<|A6<|D9 Y<|BD<|Zt<|Zt<|AV<|Zx<|A1<|Zm Y<|A5 Y<|AJ<|AP V results3 Y (by exact ⟨V,V⟩)
theorem YH(p:B8)(cap:Nat)(xs:List (List Int))(M:List A9)(J:WN M (.slice p xs.length cap) xs)(w:Int)(O:-9223372036854775808<=w)(U:w<=9223372036854775807)(B:B8)(cap2:Nat)(ys:List Stp)(K:jr M (.slice B ys.length cap2) ys)(g:AM)(G:Nat×Nat)(m:AM)(I:Nat×Nat):BJ prog 3 #[.slice p xs.length cap,I4 w,.slice B ys.length cap2] [[(4,.cells (Ew.map Cz).toArray g G)],[(1,.cells (Lib.pow10Tab.map fun z=>Value.int .u64 z).toArray m I)],M] (.bool true):=qI J w O U K g G m I
end Go.Proofs.YthhakdmlpngcmaaGreatDoor
namespace Go.Proofs.YthhakdmlpngcmaaGreatDoor
open Go.Proofs.Tryz
open Go Go.RowKit Gw
set_option maxRecDepth 100000
attribute [local irreducible] Gw.At Gw.Nx Gw.Ops
open Go.ChangeShapes Go.WideShapes Go.ChangeAt
theorem XN{P:Program}{f:FuncId}{g:Func}{s:ChangeSpec}{c:OpenClaim}(h0:c.wf (OpenSpec.ofChange s)=true)(h1:laidOutB P=true)(h2:mapsRowed P=true)(h3:g.params.all (P.readableRec ·)=true)(h4:namedTie P c.named s.vars=true)(h5:(c.stops== [])=true)(h6:(P.stops== [])=true)(h7:(c.knobs== [])=true)(h8:(P.stopKnobs== [])=true)(h9:(c.inPlace==P.inPlace f)=true)(m:(c.unfollowed==P.unfollowed f)=true)(B:(c.recurses==P.recurses f)=true)(G:(c.named==P.varsNamed f)=true)(I:(c.maps==(g.params.toList++s.plain.varTypes P).any (P.mapsRec ·))=true)(J:(c.ifaces==(g.params.toList++s.plain.varTypes P).any (P.ifacesRec ·))=true)(K:(c.mapsOut==P.mapsAmong g.resultTypes.toList)=true)(O:(c.loops==(g.params.toList++s.plain.varTypes P).any (P.loopsFrom ·))=true)(U:(c.wideKeys==(g.params.toList++s.plain.varTypes P++g.resultTypes.toList).any (P.wideKeysFrom ·))=true)(X:s.vars.all (P.varReadable ·)=true)(Z:g.resultTypes.all (fun t=>P.readableRec t&&decide (t<P.types.size))=true)(af:(c.ifacesOut==g.resultTypes.toList.any (P.ifacesRec ·))=true)(ax:(c.loopsOut==g.resultTypes.toList.any (P.loopsFrom ·))=true)(bn:(c.plainKeys==P.plainKeys)=true)(cu:c.shortTexts.isNone=true)(cO:P.stopsHeard=true)(d9:P.mayEnter=true)(dn:(c.lifted==P.liftsFinal)=true)(ek:(P.make==some c.make)=true)(gm:(c.kinds==(if c.domain.isEmpty then []else g.params.toList.map fun t=>match P.underlying t with|some (.int k)=>some k|_=>none))=true)(gq:(c.pinned==c.pinnedBy)=true)(gy:(c.veiled==(g.params.toList++s.plain.varTypes P++g.resultTypes.toList).any (P.veiledRec ·))=true)(ic:c.veiledFits P g.params.toList (g.params.toList++s.plain.varTypes P++g.resultTypes.toList)=true):joinedFacts P f g s c=true:=by
 unfold joinedFacts;simp only [G0];exact ⟨⟨⟨⟨⟨⟨⟨⟨⟨⟨⟨⟨⟨⟨⟨⟨⟨⟨⟨⟨⟨⟨⟨⟨⟨⟨⟨⟨⟨⟨⟨h0,h1⟩,h2⟩,h3⟩,h4⟩,h5⟩,h6⟩,h7⟩,h8⟩,h9⟩,m⟩,B⟩,G⟩,I⟩,J⟩,K⟩,O⟩,U⟩,X⟩,Z⟩,af⟩,ax⟩,bn⟩,cu⟩,cO⟩,d9⟩,dn⟩,ek⟩,gm⟩,gq⟩,gy⟩,ic⟩
end Go.Proofs.YthhakdmlpngcmaaGreatDoor
namespace Go.Proofs.YthhakdmlpngcmaaGreatDoor
open Go.Proofs.Tryz
open Go Go.RowKit Gw
set_option maxRecDepth 100000
attribute [local irreducible] Gw.At Gw.Nx Gw.Ops
open Go.ChangeShapes Go.WideShapes Go.Deep
theorem o6{cur:AK}{o:Nat}{L:List A4}(B:L.length=8)(h:∀(j:Nat) (y:A4),L[j]?=some y->cur[o+j]?=some y):o+8<=cur.size/\cur.extract o (o+8)=L.toArray:=by
 obtain ⟨y,g⟩:∃y,L[7]?=some y:=⟨_,BT A0⟩;have m:=(HU.1 (h 7 y g)).1
 refine ⟨by omega,Array.ext_getElem? fun i=>?_⟩;rw [cL];by_cases hi:i<8
 · rw [Ax A0]
   obtain ⟨y,g⟩:∃y,L[i]?=some y:=⟨_,BT A0⟩;rw [h i y g,dc,g]
 · rw [As A0,dc,MT A0]
theorem xj:Tryz.prog.cellsOf 38=8:=by kernel_rfl
theorem fA{H:Type}{enc:AM×A4->H}{W:AD}{base:Nat}{held:Bool}{Tg Tp:AM}{zg zp:Nat×Nat}(h4:UD W Tg zg Tp zp){B:Nat}{cs:List A4}{x:DataW H×List MemPlace}(h:DataW.trod enc prog W base (fun _=>true) held B 23 cs=some x):
 ∃v xs,cs=[v]/\jr (Og W [4,1]) v xs:=by
 obtain ⟨p,len,cap,rfl,hl,Z⟩:=TF kB xj B1 h;obtain ⟨xs,h1,h2⟩:=Jj len (fun i (z:Stp)=>z.fits/\∃g o cur T zz,p=some ⟨g,o,none⟩/\(g,Obj.cells cur T zz)∈Og W [4,1]/\o+i*8+8<=cur.size/\cur.extract (o+i*8) (o+i*8+8)=#[I4 z.cl,I4 z.a,I4 z.b,I4 z.c,I4 z.d,I4 z.e,I4 z.n,I4 z.t]) (fun i hi=>by
  obtain ⟨X,n,z,I,ht,g,o,cur,T,zz,hp,hb,hc⟩:=Z i hi
  match X,I with
  |[a0,a1,a2,a3,a4,a5,a6,a7],_=>
   obtain ⟨ys,m,_,_,_,d9,O⟩:=DataW.trod_struct underlying38 ht;have U:∀k,k<4->∃y,ys[k]?=some y:=fun k hk=>⟨_,BT (by rw [d9];exact hk)⟩
   obtain ⟨y0,ax⟩:=U 0 B1;obtain ⟨y1,bn⟩:=U 1 B1;obtain ⟨y2,cu⟩:=U 2 B1;obtain ⟨y3,cO⟩:=U 3 B1;obtain ⟨n0,e0,_,b0⟩:=DataW.trod_int D4 ((O 0 _ rfl).trans ax);obtain ⟨n1,n2,n3,n4,n5,e1,b1,b2,b3,b4,b5⟩:=lw ((O 1 _ rfl).trans bn) rfl;obtain ⟨n6,J,_,b6⟩:=DataW.trod_int D4 ((O 2 _ rfl).trans cu);obtain ⟨n7,K,_,b7⟩:=DataW.trod_int D4 ((O 3 _ rfl).trans cO);change [a0]=[_]at e0;change [a1,a2,a3,a4,a5]=[_,_,_,_,_]at e1;change [a6]=[_]at J;change [a7]=[_]at K;injection e0 with e0
   injection e1 with e1 e2
   injection e2 with e2 e3
   injection e3 with e3 e4
   injection e4 with e4 e5
   injection e5 with e5
   injection J with J
   injection K with K
   subst e0 e1 e2 e3 e4 e5 J K;have G:∀(j:Nat) (y:A4),[Value.int .i64 n0,I4 n1,I4 n2,I4 n3,I4 n4,I4 n5,I4 n6,I4 n7][j]?=some y->cur[o+i*8+j]?=some y:=fun j y hj=>by
    have af:=(C4.1 hj).1;rw [hc j (by simpa using af)];exact hj
   obtain ⟨e1,e2⟩:=o6 (L:=[Value.int .i64 n0,I4 n1,I4 n2,I4 n3,I4 n4,I4 n5,I4 n6,I4 n7]) rfl G;exact ⟨⟨n0,n1,n2,n3,n4,n5,n6,n7⟩,⟨⟨bounds_i64 b0,bounds_i64 b6,bounds_i64 b7⟩,b1,b2,b3,b4,b5⟩,g,o,cur,T,zz,hp,Ow hb (aL h4 hb (G 0 _ V) V),e1,e2⟩)
 subst h1;exact ⟨_,xs,V,p,cap,V,hl,h2⟩
end Go.Proofs.YthhakdmlpngcmaaGreatDoor
