/- Apply. -/
import Derived.Test.YthhakdmlpngcmaaGreatDoorCa11
set_option linter.unusedVariables false
set_option linter.unusedSimpArgs false
namespace Go.Proofs.YthhakdmlpngcmaaGreatDoor
open Go.Proofs.Tryz
open Go Go.RowKit Gw
set_option maxRecDepth 100000
attribute [local irreducible] Gw.At Gw.Nx Gw.Ops
theorem Ri{α:Type}{l:List α}(g:l.Nodup){i:Nat}{x:α}(h:l[i]?=some x):x∉l.take i:=fun B=>by
 have h2:l=l.take i++x::l.drop (i+1):=by
  obtain ⟨G,I⟩:=C4.1 h;rw [<-I,<-RR G,J0]
 rw [h2,GW]at g;exact g.2.2 x B x (E0 ..) V
variable{c:CZ}{p:Int}{qa:B8}{cap:Nat}{cs:List Chg}{ME:List A9}
theorem az(h:c.ok)(hC:Cv ME (.slice qa cs.length cap) cs)(hR:EK p cs)(hp:p=c.pos+1):BR prog 16 #[.pointer (some ⟨c.cp,0,none⟩),.agg #[I4 p,.slice qa cs.length cap]] [[(c.cp,.cells c.A75 95 (0,0))],c.sW,c.z.S,[(c.mb,.map c.esP c.ckP)],c.su,[(c.ip,.cells #[.map (some c.mq),c.lv] 165 (0,0))],[(c.mq,.map c.esQ c.ckQ)],c.ML,[(c.mi,.map c.esI c.ckI)],[(c.mkb,.map c.esK c.ckK)],c.SI,c.M,c.MR,ME] (fun r H'=>∃(d:CZ) (q2:B8) (cap2:Nat) (zs:List Bk) (tv:A4) (s sM:List A9),r= .tuple #[tv,I4 0]/\IJ c d p cs q2 cap2 zs/\d.M=sM++c.M/\Row 9 tv (zs.map Value.string) s/\H'=[[(d.cp,.cells d.A75 95 (0,0))],d.sW,d.z.S,[(d.mb,.map d.esP d.ckP)],d.su,[(d.ip,.cells #[.map (some d.mq),d.lv] 165 (0,0))],[(d.mq,.map d.esQ d.ckQ)],d.ML,[(d.mi,.map d.esI d.ckI)],[(d.mkb,.map d.esK d.ckK)],d.SI,d.M,d.MR,ME,s]):=by
 have zy:=mL;obtain ⟨p9,zf,e9,Cn,zu⟩:=id hC;injection e9 with e91 e92 e93
 subst e91 e93;have Gl:=h.pos
 have FT:=hR.pos;have zt:=hR.len
 have Hf:=h.wl;have Gw:=Ez h.win
 have j3:∀ch∈cs,ch.ok:=fun ch bn=>by
  obtain ⟨i,hi⟩:=HH bn;exact hR.all i ch hi
 have sO:∀x∈c.its.map ItM.iq,BK x.2:=fun y hy=>by
  obtain ⟨x,hx,rfl⟩:=C6.1 hy;exact h.its.q x hx
 have sJ:(c.its.map ItM.iq).length<=500:=by rw [B6];exact h.its.len
 refine DU func16 V ntmps16 V ?_;intro u R;refine Zb [0,1] ?_;refine A1<|Ze (Bx #[_])<|AG fun bc=>Ze (Bx #[I4 p,.slice qa cs.length cap])<|AG fun br=>Za Y<|A5 Y<|Zq<|AQ<|A1<|Zl K1 Y ?_;refine Zv (Bh RE Y Y)<|A5 Y<|AU Y (fun ic=>by cases ic)<|fun ic=>Zq<|BA (n:=14) (0::1::3::7::15::31::15::79::207::463::975::2047::4095::8191::[]) 2 AF AF V<|FG 0 V Wh (AB (cs:=#[_,_]) Iv GC Y B5 (BN V)) ?_;refine Yw 1 3 V (Zu [_] Y call44 Y V (Ph p qa cap cs ME hC)) ?_;rintro _ _ ⟨rfl,rfl⟩;rw [DG hR];refine A3 2 V (Bt Y)<|A3 3 V (AO Y)<|CU (t:=19) Y (fun g1=>?_) (fun g1=>?_);·
  rw [g1];cases g1
 rw [g1];refine An 4 V (AA (off:=0) HE V rfl AE Y)<|DO 5 V Wh (BF AH Y B0) ?_;refine DO 6 V Wh (BF K1 Y B0) ?_;refine An 7 V (Ak Y V)<|An 8 V (AA (off:=0) Fl V rfl AE Y)<|DO 9 V Wh (BF AH Y B0) ?_
 (refine An 10 rfl (Gm Y Y (IntWalk.i64_in _ ?_)) ?_;(focus (omega)))
 refine An 11 V (Im Y Y)<|A3 12 V (AL Y Y)<|A3 13 V (Aq Y)<|Ag<|Zn [2,3,15] ?_;refine Zx<|Aw Y (fun h3=>by omega)<|fun h3=>AC<|A8<|Zx<|A1<|Zl K1 Y ?_;refine Zh 0 HE V rfl AE Y<|Zl AH Y ?_;refine Zp Y V<|Zh 0 Fl V rfl AE Y<|Xe (Zs AE Y Y V) ?_;refine A6<|Zq<|BA (n:=12) (0::0::2::6::14::0::32::96::254::511::1023::2047::[]) 2496 AF AF V<|BE 0 V K1 Y ?_;refine BE 1 V K1 Y ?_;refine A3 2 V (Ak Y V)<|A3 3 V (AA (off:=1) Fl V rfl SM Y)<|BE 4 V isAgg25 Y ?_;refine FG 5 V Wh (AB (cs:=#[_,_]) Iv GC Y B5 (BN V)) ?_;refine Zz (l:=[6])<|B7 [false,true,true,true] [(4,(_,_)),(1,(_,_)),(0,(_,_))] V rfl (Zw [_] Y call45 Y V (Qi p hC A0)) ?_ Bv Aj;rintro _ _ ⟨_,⟨q2,cap2,s2,rfl,gq,rfl⟩,rfl⟩;refine BW<|Yz 7 96 255 [4,1,0] [true,true,true] [(4,(_,_)),(1,(_,_)),(0,(_,_))] V Y V rfl V rfl (Ai (vs:=[_]) (cs:=[_,_]) HF GC TX Y V rfl V rfl V)<|AG fun gb=>BW<|Yz 8 254 511 [4,1,0] [false,false,true] [(0,(_,_))] V Y V rfl V rfl (BV (by_:=32) (sz:=2) HF (V:Tryz.prog.info? 57=some Tryz.t57) V rfl V rfl Y (h.win) Y (Dl 2 gb 1 1 57 (0,0) [I4 p,.slice q2 cs.length cap2] V) Wo Wo Ft A0 A0) ?_;rintro _ _ ⟨J,af,rfl⟩;refine ⟨Zk (AZ),?_⟩;obtain ⟨X,O,rfl⟩:=af.form;refine A3 9 V (Ak Y V)<|A3 10 V (AA (off:=1) Fl V rfl SM Y)<|Zz (l:=[11])<|B7 [false] [] V rfl (Zs SM Y Y V (hi:=by(simp;done))) ?_ (fun _ _ h=>h.elim) Aj;rintro _ _ ⟨rfl,rfl⟩;refine BW<|Ag<|Zn [2,3] ?_;refine Zx ?_;have Z:=BZ af (n':=(c.win++[(⟨p,q2,cap2,cs⟩:BQ)]).length) (xs':=Du (c.win++[(⟨p,q2,cap2,cs⟩:BQ)])) (by rw [Bm];rfl) (by rw [Kn];rfl)
 have B:(c.win++[(⟨p,q2,cap2,cs⟩:BQ)]).length=c.win.length+1:=by rw [Bm];rfl
 refine Cb (s1:=s2) (s2:=c.M) Wo Wo ?_;refine Zb [2,3] ?_;refine CW (e0:=[]) (H0:=[[(c.cp,.cells #[I4 p,.slice X (c.win.length+1) O,.pointer (some ⟨c.z.r,0,none⟩),.pointer (some ⟨c.ip,0,none⟩),.map (some c.mi),.map (some c.mkb),I4 c.next] 95 (0,0))],J,(s2++c.M)]) (fun e H=>∃(W:List BQ) (wq:B8) (wc:Nat) (sW s0:List A9),(Jq c.win W ⟨p,q2,cap2,cs⟩/\Bd 2 57 (.slice wq W.length wc) W.length (Du W) sW)/\e=[]/\H=[[(c.cp,.cells #[I4 p,.slice wq W.length wc,.pointer (some ⟨c.z.r,0,none⟩),.pointer (some ⟨c.ip,0,none⟩),.map (some c.mi),.map (some c.mkb),I4 c.next] 95 (0,0))],sW,(s0++(s2++c.M))]) Wp ?hx_6 ?hy_6
 case hx_6=>
  refine A1<|Zl K1 Y ?_;refine Zp Y V<|Zh 1 Fl V rfl SM Y<|Zl isAgg25 Y ?_;refine Zv (Ac HF Y)<|Zv (DR (n:=64) Y Y)<|A6<|Aw Y (fun h6=>?_) (fun h6=>?_);·
   have l9:Ec (J++(s2++c.M)) (.slice X (c.win.length+1) O) (c.win++[(⟨p,q2,cap2,cs⟩:BQ)]):=by
    rw [B]at Z;rw [<-B];refine KF (by rw [B];exact Z) A0 fun r hr=>?_;rcases C2.1 hr with hr|hr
    · obtain ⟨i,hi⟩:=HH hr
      exact Gy (h.wp i r hi).2.1 s2
    · rw [C5.1 hr];exact Jm gq c.M
   have o8:Ec (J++(s2++c.M)) (.slice (Ea X 1 O 2) c.win.length (O -1)) ((c.win++[(⟨p,q2,cap2,cs⟩:BQ)]).drop 1):=by
    rw [<-B]at l9;have h9:=Na (a:=1) l9 A0
    rwa [B,Rg]at h9
   refine Cb (s1:=J) (s2:=(s2++c.M)) Wo Wo ?_;refine BA (n:=10) (0::0::2::6::14::30::62::127::255::511::[]) 576 AF AF V<|BE 0 V K1 Y ?_;refine BE 1 V K1 Y ?_;refine A3 2 V (Ak Y V)<|A3 3 V (AA (off:=1) Fl V rfl SM Y)<|BE 4 V isAgg25 Y ?_;refine A3 5 rfl (C8 (l:=1) HF GC Y Y A0)<|Zz (l:=[6])<|B7 [false,false,true] [(0,(_,_))] rfl rfl (Zw [_] Y call46 Y rfl (IE o8 (by rw [CH];omega))) ?_ Bv Aj;rintro _ _ ⟨_,⟨sR,l8,rfl⟩,rfl⟩;refine ⟨Zk (AZ),?_⟩;obtain ⟨gR,cR,rfl⟩:=l8.form;refine A3 7 V (Ak Y V)<|A3 8 V (AA (off:=1) Fl V rfl SM Y)<|Zz (l:=[9])<|B7 [false] [] V rfl (Zs SM Y Y V (hi:=by(simp;done))) ?_ (fun _ _ h=>h.elim) Aj;rintro _ _ ⟨rfl,rfl⟩;refine BW<|Ag<|Zn [2,3] ?_;refine Av (e':=[]) (by exact ⟨(c.win++[(⟨p,q2,cap2,cs⟩:BQ)]).drop 1,gR,cR,sR,J,⟨.inr ⟨V,by omega⟩,l8⟩,V,V⟩)
  refine AC<|Zn [2,3] ?_;refine Av (e':=[]) (by exact ⟨c.win++[(⟨p,q2,cap2,cs⟩:BQ)],X,O,J,[],⟨.inl ⟨rfl,by omega⟩,by rw [B]at Z⊢;exact Z⟩,rfl,by rw [B]⟩)
 rintro _ _ ⟨W,wq,wc,sW,s0,⟨gy,ve⟩,rfl,rfl⟩;refine A1<|Ze (Al cU #[_])<|AG fun bt=>A6<|A1<|Zv (Bg (vs:=[]) (us:=[_,_,_]) Y Y)<|A5 Y<|Zq<|Zq<|BA (n:=8) (0::1::3::7::0::31::63::0::[]) 32 AF AF V<|BE 0 V K1 Y ?_;refine A3 1 V (Ak Y V)<|A3 2 V (AA (off:=3) Fl V rfl sizeOf90 Y)<|BE 3 V isAgg90 Y ?_;refine FG 4 V Wh (AB (cs:=#[_,_]) Iv GC Y B5 (BN V)) ?_;refine A3 7 V (AO Y)<|Zz (l:=[5])<|B7 [false,false,false] [] V rfl (Zw [_,_] Y call50 Y V (fH h.its.idx sO sJ h.its.ist p (MC:=ME) hC A0 j3)) ?_ Bv Aj;rintro _ _ ⟨_,⟨zi,sz,lv2,ML2,p8,yt,HZ,ek,o9,rfl⟩,rfl⟩;refine ⟨AZ,?_⟩;obtain ⟨pk,ck,rfl⟩:=ek.form;simp only [B6];rw [B6]at ek;refine A3 6 V (Ac DE Y)<|Ag<|Zx<|AQ<|Bc<|Zb [68,2,3,6,7,66,67] ?_;refine BI (e0:=[(68,_)]) (fun m e H=>∃(k:Nat) (d:CZ) (tl:List Bk) (tv:A4) (st:List A9),m=zi.length -k/\(k<=zi.length/\H8 c d cs p W (s0++(s2++c.M)) (zi.take k) tl/\Row 9 tv (tl.map Value.string) st)/\e=[(68,I4 (k:Int))]/\H=[[(c.cp,.cells d.A75 95 (0,0))],d.sW,d.z.S,[(d.mb,.map d.esP d.ckP)],d.su,[(d.ip,.cells #[.map (some d.mq),d.lv] 165 (0,0))],[(d.mq,.map d.esQ d.ckQ)],d.ML,[(d.mi,.map d.esI d.ckI)],[(d.mkb,.map d.esK d.ckK)],d.SI,d.M,d.MR,[(bt,.cells #[tv] 52 (0,0))],st]) (by exact ⟨0,({c with pos:=p,wq:=wq,wc:=wc,win:=W,sW:=sW,lv:=lv2,ML:=ML2,M:=s0++(s2++c.M)}:CZ),[],.slice none 0 0,[],rfl,⟨C7 _,by rw [IF];exact vg h.tookb gy ve hp hR (fun q hq=>G2 _ (G2 _ hq)) (Gy (Jm gq c.M) s0) o9,Gs _⟩,rfl,rfl⟩) Wp ?_;rintro _ _ _ ⟨k,d,tl,tv,st,rfl,⟨hk,g,hT⟩,rfl,rfl⟩;refine A1<|Zv (Ay Y Y)<|A6<|Zq<|Aw Y (fun cu=>?_) (fun cu=>?_);·
  obtain ⟨i9,U⟩:∃i,zi[k]?=some i:=⟨_,BT A0⟩;obtain ⟨y9,y5,dn,zl⟩:=(p8 i9).1 (DQ U);obtain ⟨x,hx,rfl⟩:=C6.1 y5;replace dn:x.id=i9:=dn;subst dn;have l5:x.id∉zi.take k:=Ri yt U
  have cO:=g.next_it h.tookb hx l5;have kv:=g.okb.its.get cO
  have sj:Dp x.id d.lmK=some (.string x.key):=D7 g.okb.its.km.keys ((g.okb.its.kmem _).2 ⟨x,cO,rfl⟩);have bn:(x.b,Obj.cells x.A74 121 (0,0))∈d.SI:=g.okb.its.sub x cO
  have vz:tl.length<=500:=Q1 (TJ g.t2 fun a ha=>by
   obtain ⟨w,hw,rfl,_⟩:=(g.t1 a).1 ha;exact DS hw) (by rw [B6];exact h.its.len)
  rcases ek with⟨_,h0,_⟩|⟨gk,capk,curk,zk,hvk,rfl,hlek,hcmk,hcsk,htkk,hfrk⟩
  · simp at h0;subst h0;simp at cu
  injection hvk with hv1 hv2 hv3
  subst hv1 hv3;have q9:curk[k]?=some (I4 x.id):=by
   have h:=congrArg (fun l=>l[k]?) htkk;simp only [HI,B6,Ax cu,DP,U]at h;simpa using h
  refine AC<|Zx<|Zq<|AQ<|A1<|BU (Be DE AE Y Y (by first|omega|decide|(simp;done)|(simp;omega)))<|Zl AH Y (hv:=by exact q9) ?_;refine A5 Y<|A1<|Zl K1 Y ?_;refine Zp Y V<|Zh 5 Fl V rfl sizeOf93 Y<|Zl isAgg93 Y ?_;refine Zm Y<|Zo Wh (De (Cf D4 (D:=fun _=>True)) dy HS g.okb.its.km (fun _ _=>trivial) (trivial) (by rw [sj];first|done|rfl) Y Y) ?_;refine A5 Y<|Zq<|BA (n:=13) (0::1::3::7::0::31::63::127::255::511::0::1024::4095::[]) 0 AF AF V<|BE 0 V K1 Y ?_;refine A3 1 V (Ak Y V)<|A3 2 V (AA (off:=4) Fl V rfl RK Y)<|BE 3 V ON Y ?_;refine A3 4 rfl (AO Y)<|FG 5 rfl Wh (De (Dt HA (D:=fun _=>True)) RC W4 g.okb.its.im (fun _ _=>trivial) (trivial) (by rw [kv];first|done|rfl) Y Y) ?_;refine A3 6 V (Ak Y V)<|A3 7 V (AA (off:=0) Hs V rfl HG Y)<|A3 8 V (Ap (off:=8) GB V rfl AE Y)<|Cc (D':=1023) 9 V rfl V (Dy Wo (bn)) (BF AH Y B0) ?_;refine A3 10 V (AA (off:=0) HE V rfl AE Y)<|BE 11 V AH Y ?_;refine A3 12 V (EH Y Y)<|Ag<|Zn [2,3,6,7,10,66,67,68,90] ?_;refine Zx<|Aw Y (fun ax=>?_) (fun ax=>?_);·
   refine Zg<|Zm Y<|Zm Y<|Zl K1 Y ?_;refine Zp Y V<|Zh 4 Fl V rfl RK Y<|Zl ON Y ?_;refine Zm Y<|Zo Wh (De (Dt HA (D:=fun _=>True)) RC W4 g.okb.its.im (fun _ _=>trivial) (trivial) (by rw [kv];first|done|rfl) Y Y) ?_;refine Zc [_,_] Y call47 Y V (iL g h hC A0 hx ax l5 hT A0 bt br bc) ?_;rintro _ _ ⟨_,⟨rfl,d2,zb,za,gm,pz,rfl⟩,rfl⟩;refine Z0<|A8<|Zx<|Zg<|Ya (n:=1) Y Y<|Zm Y<|Z0<|Zn [68,2,3,6,7,66,67] ?_;refine Aa (e':=[(68,_)]) (by exact ⟨k+1,d2,tl++[x.key],zb,za,rfl,⟨by omega,by rw [Bn U];exact gm,pz⟩,rfl,rfl⟩)
  refine AC<|A8<|Zx<|Zg<|Ya (n:=1) Y Y<|Zm Y<|Z0<|Zn [68,2,3,6,7,66,67] ?_;refine Aa (e':=[(68,_)]) (by exact ⟨k+1,d,tl,tv,st,rfl,⟨by omega,by rw [Bn U];exact vY g h.tookb hx ax,hT⟩,rfl,rfl⟩)
 obtain rfl:k=zi.length:=by omega
 rw [G3]at g;have vz:tl.length<=500:=Q1 (TJ g.t2 fun a ha=>by
  obtain ⟨w,hw,rfl,_⟩:=(g.t1 a).1 ha;exact DS hw) (by rw [B6];exact h.its.len)
 refine BD<|Zt<|Zt<|AV<|Zx<|Zq<|Zq ?_;rw [<-g.cp];refine Zg<|Zl K1 Y ?_;refine Zc [_] Y call51 Y V (dE d) ?_;rintro _ _ ⟨_,⟨bs,rfl,rfl⟩,rfl⟩;refine A6<|AQ<|Zb [2,6,102] ?_;refine J6 (H0:=_) (R:=_) (I:=(fun(pre:List Bk) H=>∃d2:CZ,JQ d d2 pre/\H=[[(d.cp,.cells d2.A75 95 (0,0))],d2.sW,d2.z.S,[(d2.mb,.map d2.esP d2.ckP)],d2.su,[(d2.ip,.cells #[.map (some d2.mq),d2.lv] 165 (0,0))],[(d2.mq,.map d2.esQ d2.ckQ)],d2.ML,[(d2.mi,.map d2.esI d2.ckI)],[(d2.mkb,.map d2.esK d2.ckK)],d2.SI,d2.M,d2.MR,[(bc,.cells #[.pointer (some ⟨d.cp,0,none⟩)] 29 (0,0))]])) (E:=fun x e Hn=>e=[(11,.string x),(103,.string x)]/\Hn=[]) rfl Y call103 (dG g.okb bs) (fun pre H1 c9 d9 h9=>by obtain ⟨d2,G,rfl⟩:=h9;exact ⟨d2,G.okb,G.like.cp,G.mi,G.like.pos,G.its,by rw [G.like.cp];simp,by simp,fun q hq=>by simp [hq]⟩) Y rfl Wp (⟨d,Rn g.okb,rfl⟩) ?ha_16 ?hbd_16 ?hk_16
 case ha_16=>
  intro _ x _ _;refine Zg<|AW Y<|L6 (e:=[(11,_),(103,_)]) (Hn:=[]) ?_;exact ⟨V,V⟩
 case hbd_16=>
  intro l pre x u e9 zm H1 R1 r9 wz hI pg;obtain ⟨rfl,rfl⟩:=pg;obtain ⟨d2,G,rfl⟩:=hI;obtain ⟨x2,wo,rfl⟩:=dF G g.okb wz;rw [<-G.like.cp];refine AQ<|Zg<|Zl K1 Y ?_;refine Zm Y<|Zc [_,_] Y call49 Y V (XX G.okb wo) ?_;rintro _ _ ⟨_,⟨rfl,d3,qb,j5,qj,ql,_,qo,qw,qx,rfl⟩,rfl⟩;rw [j5.cp];refine Z0<|A8<|Eg V (by exact ⟨d3,Rm G qb j5 qj ql qo qw qx,V⟩)
 intro D1 ys H2 qz pq;obtain ⟨d2,G,rfl⟩:=pq;rw [<-G.like.cp];refine Zn [6] ?_;refine A8<|Zx<|A1<|Zl LL Y ?_;refine Zc [_] Y call52 Y V (Rq hT A0) ?_;rintro _ _ ⟨_,⟨zs,s3,rfl,sw,vw,vo,rfl⟩,rfl⟩;refine A6<|A1<|Zl LL Y ?_;refine Za Y<|A5 Y<|AJ<|Fv V (qm results16 Y Y) Wo (by exact ⟨d2,q2,cap2,zs,tv,s3,s0++s2,V,vZ h hR hp gy g (fun q hq=>G2 _ (G2 _ hq)) p8 G qz sw vw,G.M.1.trans (g.M.trans (CT _ _ _).symm),vo,V⟩)
theorem uH:GK [] 0 #[] 0 [] (.pointer none) [] #[] 0 [] #[] 0 [] []:=⟨nO,.inl ⟨rfl,rfl⟩,EX _,fun p=>by simp,EX _,fun p=>by simp,mu,fun x g=>by simp at g,by decide,by decide,fun x g=>by simp at g,fun x g=>by simp at g⟩
variable{d:CZ}
theorem vE(h:d.okb)(hi:d.its=[])(pos:Int)(B:0<=pos/\pos<=10000):({d with pos:=pos,wq:=none,wc:=0,win:=[],sW:=[]}:CZ).ok:=
 ⟨⟨B,Bj 2 _,C7 _,fun i r G=>by simp at G,h.pool,h.pk,h.its,h.tns⟩,fun x I=>by have g:x∈d.its:=I;rw [hi]at g;simp at g⟩
theorem CZ.okb.noPL(h:c.okb)(hi:c.its=[]):c.PL=[]:=by
 cases hP:c.PL with
 |nil=>rfl
 |cons e l=>
  have g:=(h.pk e.key).1 (by rw [hP];simp);rw [hi]at g;simp at g
variable{v:A4}{sh:List Int}
theorem oN{W:List A9}(Z:Row 3 v (sh.map (Value.int .i64)) W)(pos cap:Int)(X:0<=pos/\pos<=10000)(hc:1<=cap/\cap<=1000000)(hl:1<=sh.length/\sh.length<=8)(h0:∀x∈sh,0<=x)(O:sh.sum<=cap):BR prog 8 #[I4 pos,I4 cap,v] [W] (fun r H'=>∃c:CZ,r= .tuple #[.pointer (some ⟨c.cp,0,none⟩),I4 0]/\c.ok/\(c.its=[]/\c.PL=[]/\c.win=[])/\c.pos=pos/\c.next=0/\c.ns=sh.length/\c.z.cap=cap/\Jr c.M c.z.sh sh/\H'=[[(c.cp,.cells c.A75 95 (0,0))],c.sW,c.z.S,[(c.mb,.map c.esP c.ckP)],c.su,[(c.ip,.cells #[.map (some c.mq),c.lv] 165 (0,0))],[(c.mq,.map c.esQ c.ckQ)],c.ML,[(c.mi,.map c.esI c.ckI)],[(c.mkb,.map c.esK c.ckK)],c.SI,c.M,c.MR,W]):=by
 refine Se func8 ntmps8 [0,1,2] ?_;intro u R;refine A1<|Za Y<|A5 Y<|Zq<|A1<|Zm Y<|Xr [_] Y call26 Y V (JK pos) ?_;rw [DG X];refine Zv (Bt Y)<|A6<|AU Y (fun B=>by cases B)<|fun B=>AC<|Zx<|A1<|Zm Y<|Zm Y<|Zc [_,_] Y call27 Y V (mJ Z cap hc hl h0 O) ?_;rintro _ _ ⟨_,⟨z,mb,su,sc,rfl,⟨I,J⟩,g,rfl⟩,rfl⟩;refine Zm Y<|Zd Y V<|Zd Y V<|Za Y<|AW Y<|Zn [0,8,9] ?_;refine Zx<|Zq<|A1<|Zm Y<|Zv (FY (n:=0) Y Y)<|A6<|Aw Y (fun G=>?_) (fun G=>?_);·
  exfalso;exact G rfl
 refine AC<|Zx<|Zq<|Bc<|Bc<|Bc<|Bc<|Zg<|Zm Y<|Zm Y<|Zc [] Y call28 Y V (jw) ?_;rintro _ _ ⟨_,⟨ip,mq,rfl,rfl⟩,rfl⟩;refine Ze (DX)<|AG fun mi=>Ze (DX)<|AG fun mkb=>Zv (BM (vs:=[(0,_),(2,_),(3,_),(4,_),(5,_)]) (cs:=#[_,_,_,_,_,_,_]) Y (AY (pl:=#[(0,1),(1,1),(2,1),(3,1),(4,1),(5,1),(6,1)]) zeroValue95 Fl (fun _=>by kernel_rfl) V))<|Ze (Bx #[_,_,_,_,_,_,_])<|AG fun cp=>Za Y<|A5 Y<|AJ<|DJ V results8 Y Y (by refine ⟨({cp:=cp,pos:=pos,wq:=none,wc:=0,win:=[],sW:=[],z:=z,ns:=sh.length,PL:=[],mb:=mb,esP:=#[],ckP:=0,lmP:=[],su:=su,ip:=ip,mq:=mq,mi:=mi,mkb:=mkb,next:=0,its:=[],esQ:=#[],ckQ:=0,lmQ:=[],lv:= .pointer none,ML:=[],esI:=#[],ckI:=0,lmI:=[],esK:=#[],ckK:=0,lmK:=[],SI:=[],M:=sc,MR:=[]}:CZ),V,⟨⟨X,Bj 2 _,by simp,fun i r hr=>by simp at hr,g,fun k=>by simp,uH,fun x U=>by simp at U⟩,fun x U=>by simp at U⟩,⟨V,V,V⟩,V,V,V,I,J,V⟩)
theorem vH(pos:Int)(cap:Int)(v:A4)(B:¬(0<=pos/\pos<=10000)):BJ prog 8 #[I4 pos,I4 cap,v] [] (.tuple #[.pointer none,I4 180]):=by
 refine Se func8 ntmps8 [0,1,2] ?_;intro u R;refine A1<|Za Y<|A5 Y<|Zq<|A1<|Zm Y<|Xr [_] Y call26 Y V (JK pos) ?_;rw [Cl B];refine Zv (Bt Y)<|A6<|AU Y (fun g=>?_) (fun g=>?_);·
  refine A1<|Za Y<|A5 Y<|AJ<|Zt<|DJ V results8 Y Y (by exact ⟨V,V⟩)
 cases g
theorem dS(h:c.ok)(pos:Int)(hp:0<=pos/\pos<=10000):BR prog 22 #[.pointer (some ⟨c.cp,0,none⟩),I4 pos] [[(c.cp,.cells c.A75 95 (0,0))],c.sW,c.z.S,[(c.mb,.map c.esP c.ckP)],c.su,[(c.ip,.cells #[.map (some c.mq),c.lv] 165 (0,0))],[(c.mq,.map c.esQ c.ckQ)],c.ML,[(c.mi,.map c.esI c.ckI)],[(c.mkb,.map c.esK c.ckK)],c.SI,c.M,c.MR] (fun v H'=>v=undef/\∃d:CZ,d.ok/\d.cp=c.cp/\(d.its=[]/\d.PL=[]/\d.win=[])/\d.pos=pos/\d.next=c.next/\d.ns=c.ns/\d.z.cap=c.z.cap/\(d.z.cs=c.z.cs/\∀q∈c.M,q∈d.M)/\H'=[[(d.cp,.cells d.A75 95 (0,0))],d.sW,d.z.S,[(d.mb,.map d.esP d.ckP)],d.su,[(d.ip,.cells #[.map (some d.mq),d.lv] 165 (0,0))],[(d.mq,.map d.esQ d.ckQ)],d.ML,[(d.mi,.map d.esI d.ckI)],[(d.mkb,.map d.esK d.ckK)],d.SI,d.M,d.MR]):=by
 refine Se func22 ntmps22 [0,1] ?_;intro u R;refine Zq<|A1<|Zm Y<|Zv (Bh RE Y Y)<|Zm Y<|Ah (t:=8) Y V (fun g1=>by cases g1)<|fun g1=>Zf Y Y<|Xr [_] Y call26 Y V (JK pos) ?_;rw [DG hp];refine Yg (Bt Y)<|Zv (AL Y Y)<|A6<|AU Y (fun O=>by cases O)<|fun O=>AC<|Zx<|Zq<|A1<|Zm Y<|Zc [_] Y call17 Y V (Ny h.tookb) ?_;rintro _ _ ⟨_,⟨zs,sk,B,gq,J,rfl⟩,rfl⟩;have ek:zs.Nodup:=B.nodup_iff.2 h.its.keys
 have dn:=B.length_eq;rw [B6]at dn;have gm:=h.its.len
 obtain ⟨pk,ck,rfl⟩:=J.form;simp only [B6];rw [B6]at J;refine Zv (Ac DH Y)<|Zm Y<|A6<|AQ<|Zb [16,0,1,14,15] ?_;refine BI (e0:=[(16,_)]) (fun m e H=>∃(i:Nat) (d:CZ),m=zs.length -i/\(i<=zs.length/\JQ c d (zs.take i))/\e=[(16,I4 (i:Int))]/\H=[[(c.cp,.cells d.A75 95 (0,0))],d.sW,d.z.S,[(d.mb,.map d.esP d.ckP)],d.su,[(d.ip,.cells #[.map (some d.mq),d.lv] 165 (0,0))],[(d.mq,.map d.esQ d.ckQ)],d.ML,[(d.mi,.map d.esI d.ckI)],[(d.mkb,.map d.esK d.ckK)],d.SI,d.M,d.MR]) (by exact ⟨0,c,rfl,⟨C7 _,by rw [IF];exact Rn h.tookb⟩,rfl,rfl⟩) Wp ?_;rintro _ _ _ ⟨i,d,rfl,⟨hi,g⟩,rfl,rfl⟩;refine A1<|Zv (Ay Y Y)<|A6<|Zq<|Aw Y (fun I=>?_) (fun I=>?_);·
  obtain ⟨k,W⟩:∃k,zs[i]?=some k:=⟨_,BT A0⟩;obtain ⟨x,hx,rfl⟩:=C6.1 (B.mem_iff.1 (DQ W));have d9:x∈d.its:=(g.its x).2 ⟨hx,Ri ek W⟩
  rcases J with⟨_,h0,_⟩|⟨gk,capk,curk,zk,hvk,rfl,hlek,hcmk,hcsk,htkk,hfrk⟩
  · simp at h0;subst h0;simp at I
  injection hvk with hv1 hv2 hv3
  subst hv1 hv3;have X:curk[i]?=some (.string x.key):=by
   have h:=congrArg (fun l=>l[i]?) htkk;simp only [HI,B6,Ax I,DP,W]at h;simpa using h
  refine AC<|Zx<|Zq<|AQ<|A1<|BU (Be DH Fm Y Y cn)<|Zl Hh Y (hv:=by exact X)<|AW Y<|Zx ?_;rw [<-g.like.cp];refine Zg<|Zm Y<|Zm Y<|Zc [_,_] Y call49 Y V (XX g.okb d9) ?_;rintro _ _ ⟨_,⟨rfl,d3,Z,U,af,ax,_,bn,cu,cO,rfl⟩,rfl⟩;rw [U.cp,g.like.cp];refine Z0<|A8<|Zx<|Zg<|Ya (n:=1) Y Y<|Zm Y<|Z0<|Zn [16,0,1,14,15] ?_;refine Aa (e':=[(16,_)]) (by exact ⟨i+1,d3,rfl,⟨by omega,by rw [Bn W];exact Rm g Z U af ax bn cu cO⟩,rfl,rfl⟩)
 obtain rfl:i=zs.length:=by omega
 rw [G3]at g;have G:d.its=[]:=qT.2 fun y hy=>by
  obtain ⟨h1,h2⟩:=(g.its y).1 hy;exact h2 (B.mem_iff.2 (DS h1))
 refine BD<|Zt<|Zt<|AV<|Zx ?_;rw [<-g.like.cp];refine Bc<|Zg<|Zm Y<|Zm Y<|Zm Y<|Zp Y rfl<|Zh 0 Fl rfl rfl AE Y<|Xe (Zs AE Y Y rfl (hi:=by(simp;done)))<|Zp Y rfl<|Zh 1 Fl rfl rfl SM Y<|Xe (Zs SM Y Y rfl (hi:=by(simp;done)))<|Z0<|Ce rfl results22 (by exact ⟨rfl,({d with pos:=pos,wq:=none,wc:=0,win:=[],sW:=[]}:CZ),vE g.okb G pos hp,rfl,⟨G,g.okb.noPL G,rfl⟩,rfl,g.next,g.like.ns,g.like.cap,⟨g.like.sc,fun q hq=>by show q∈d.M;rw [g.M.1];exact hq⟩,rfl⟩)
theorem bA(h:c.okb)(I:Cv ME (.slice qa cs.length cap) cs)(U:EK p cs)(hp:p≠c.pos+1):BJ prog 16 #[.pointer (some ⟨c.cp,0,none⟩),.agg #[I4 p,.slice qa cs.length cap]] [[(c.cp,.cells c.A75 95 (0,0))],ME] (.tuple #[.slice none 0 0,I4 180]):=by
 have X:=mL;obtain ⟨p9,G,J,Z,W⟩:=id I;injection J with e91 e92 e93
 subst e91 e93;refine DU func16 V ntmps16 V ?_;intro u R;refine Zb [0,1] ?_;refine A1<|Ze (Bx #[_])<|AG fun b1=>Ze (Bx #[I4 p,.slice qa cs.length cap])<|AG fun b2=>Za Y<|A5 Y<|Zq<|AQ<|A1<|Zl K1 Y<|Zv (Bh RE Y Y)<|A5 Y<|AU Y (fun g=>by cases g)<|fun g=>Zq<|BA (n:=14) (0::1::3::7::15::31::15::79::207::463::975::2047::4095::8191::[]) 2 AF AF V<|FG 0 V Wh (AB (cs:=#[_,_]) Iv GC Y B5 (BN V))<|Yw 1 3 V (Zu [_] Y call44 Y V (Ph p qa cap cs ME I)) ?_;rintro _ _ ⟨rfl,rfl⟩;rw [DG U];refine A3 2 V (Bt Y)<|A3 3 V (AO Y)<|CU (t:=19) Y (fun B=>?_) (fun B=>?_);·
  rw [B];cases B
 rw [B];refine An 4 V (AA (off:=0) HE V rfl AE Y)<|DO 5 V Wh (BF AH Y B0)<|DO 6 V Wh (BF K1 Y B0)<|An 7 V (Ak Y V)<|An 8 V (AA (off:=0) Fl V rfl AE Y)<|DO 9 V Wh (BF AH Y B0)<|An 10 V (Gm Y Y (IntWalk.i64_in _ (by have:=h.pos;omega)))<|An 11 V (Im Y Y)<|A3 12 V (AL Y Y)<|A3 13 V (Aq Y)<|Ag<|Zn [2,3,15] ?_;refine Zx<|Aw Y (fun O=>?_) (fun O=>?_);·
  refine A1<|Za Y<|A5 Y<|AJ<|Ab<|Zt<|TI V (qm results16 Y Y) (by exact ⟨V,V⟩)
 exfalso;omega
theorem EJ{P:Program}{f:FuncId}{args:AK}{H H1:Hp}{Q B:A4->Hp->Prop}(h:BR P f args H Q)(R:List A9)(U:H1.flatten.Perm (H.flatten++R))(W:∀v H',Q v H'->∃g,B v g/\g.flatten.Perm (H'.flatten++R)):BR P f args H1 B:=fun u G w X=>by
 have I:Sat u (H++([R]++G)) w:=X.perm (by
  simp only [HB,CA,Fi,D2];rw [<-CT];exact U.append_right _)
 refine (h u ([R]++G) w I).mono ?_;rintro e Z (⟨v,H',rfl,h2,h3⟩|⟨_,_,_,h,_⟩)
 · obtain ⟨g,J,O⟩:=W v H' h2
   refine .inl ⟨v,g,V,J,h3.perm ?_⟩;simp only [HB,CA,Fi,D2];rw [<-CT];exact O.symm.append_right _
 · exact h.elim
theorem JN{P:Program}{f:FuncId}{args:AK}{H H1:Hp}{r:A4}(h:BJ P f args H r)(R:List A9)(g:H1.flatten.Perm (H.flatten++R)):BJ P f args H1 r:=EJ h R g (by
 rintro v H' ⟨rfl,rfl⟩;exact ⟨_,⟨V,V⟩,g⟩)
def CZ.mem(c:CZ):List A9:=([(c.cp,.cells c.A75 95 (0,0))]:List A9)++((c.sW:List A9)++((c.z.S:List A9)++(([(c.mb,.map c.esP c.ckP)]:List A9)++((c.su:List A9)++(([(c.ip,.cells #[.map (some c.mq),c.lv] 165 (0,0))]:List A9)++(([(c.mq,.map c.esQ c.ckQ)]:List A9)++((c.ML:List A9)++(([(c.mi,.map c.esI c.ckI)]:List A9)++(([(c.mkb,.map c.esK c.ckK)]:List A9)++((c.SI:List A9)++((c.M:List A9)++((c.MR:List A9)))))))))))))
theorem jE(h:c.okb){B:Int}(O:∀e∈c.PL,e.sz<=B):c.z.cap -(c.its.length:Int)*B<=c.z.fr:=by
 have J:∀L:List Bf,(∀e∈L,e.sz<=B)->Fj L<=(L.length:Int)*B:=fun L=>by
  induction L with
  |nil=>intro _;simp [Fj]
  |cons e l ih=>
   intro I;have h2:=ih fun x U=>I x (E7 _ U)
   have g:=I e (E0 ..);have G:Fj (e::l)=e.sz+Fj l:=by unfold Fj;rw [Dd,j8]
   rw [G,E3];push_cast;rw [Int.add_mul];omega
 have h2:(c.PL.map (·.key)).Perm (c.its.map ItM.key):=(OS h.pool.keys h.its.keys).2 h.pk;have g:=h2.length_eq
 rw [B6,B6]at g;have G:=J c.PL O
 rw [g]at G;have W:=h.pool.free
 omega
def yW(c d:CZ)(q:QM)(tn base:Int)(L:List RP)(R:CB×Int×Bool)(b:Bool):Prop:=
 (b=false/\d=c/\¬((c.pos -base).toNat<=c.win.length/\R.2.2=true))\/
 (b=true/\((c.pos -base).toNat<=c.win.length/\R.2.2=true)/\(∀e∈d.PL,e∈c.PL\/e.sz=1+(R.1.rows.length:Int))/\
   ((d=c/\∃x∈c.its,x.key=str (Bi q)/\base<=x.base)\/
    ((∀x∈c.its,x.key=str (Bi q)->x.base<base)/\∃y:ItM,d.its=(c.its.filter fun x=>x.key≠str (Bi q))++[y]/\y.q=q/\y.base=base/\y.L=L/\y.res=R.1/\y.since=R.2.1/\((y.tn=tn/\∀x∈c.its,x.key≠str (Bi q))\/∃x∈c.its,x.key=str (Bi q)/\y.tn=x.tn))))
theorem x6(c:CZ):BJ prog 15 #[.pointer (some ⟨c.cp,0,none⟩)] [c.mem] (I4 c.pos):=JN (oK c) ((c.sW:List A9)++(c.z.S:List A9)++([(c.mb,.map c.esP c.ckP)]:List A9)++(c.su:List A9)++([(c.ip,.cells #[.map (some c.mq),c.lv] 165 (0,0))]:List A9)++([(c.mq,.map c.esQ c.ckQ)]:List A9)++(c.ML:List A9)++([(c.mi,.map c.esI c.ckI)]:List A9)++([(c.mkb,.map c.esK c.ckK)]:List A9)++(c.SI:List A9)++(c.M:List A9)++(c.MR:List A9)++[]) (Bw fun f g=>by simp only [CA,Fi,D2,CZ.mem,CZ.A75,g]<;>omega)
variable{k:Nat}
theorem LZ(h:c.okb)(B:k<c.ns):BJ prog 12 #[.pointer (some ⟨c.cp,0,none⟩),I4 (k:Int)] [c.mem] (I4 (Ck c.PL (k:Int))):=JN (gV h B) ((c.sW:List A9)++([(c.ip,.cells #[.map (some c.mq),c.lv] 165 (0,0))]:List A9)++([(c.mq,.map c.esQ c.ckQ)]:List A9)++(c.ML:List A9)++([(c.mi,.map c.esI c.ckI)]:List A9)++([(c.mkb,.map c.esK c.ckK)]:List A9)++(c.SI:List A9)++(c.M:List A9)++(c.MR:List A9)++[]) (Bw fun f g=>by simp only [CA,Fi,D2,CZ.mem,CZ.A75,g]<;>omega)
variable{K:Bk}
theorem nC(h:c.ok)(g:∀y∈c.its,y.key≠K):BJ prog 11 #[.pointer (some ⟨c.cp,0,none⟩),.string K] [c.mem] (.tuple #[.agg #[I4 0,I4 0,I4 0,I4 0,I4 0,I4 0,I4 0,I4 0,I4 0,.slice none 0 0],.bool false]):=JN (uz h g) ((c.sW:List A9)++(c.z.S:List A9)++([(c.mb,.map c.esP c.ckP)]:List A9)++(c.su:List A9)++([(c.ip,.cells #[.map (some c.mq),c.lv] 165 (0,0))]:List A9)++([(c.mq,.map c.esQ c.ckQ)]:List A9)++(c.ML:List A9)++([(c.mkb,.map c.esK c.ckK)]:List A9)++(c.SI:List A9)++(c.M:List A9)++(c.MR:List A9)++[]) (Bw fun f B=>by simp only [CA,Fi,D2,CZ.mem,CZ.A75,B]<;>omega)
variable{x:ItM}
theorem nA(h:c.ok)(G:x∈c.its)(g:c.pos<x.base):BJ prog 18 #[.pointer (some ⟨c.cp,0,none⟩),.string x.key] [c.mem] (.tuple #[.agg #[I4 0,I4 0,I4 0,I4 0,I4 0,I4 0,I4 0,.slice none 0 0,I4 0,.bool false,I4 0,I4 0,I4 0,.slice none 0 0,.slice none 0 0],.bool false]):=JN (uU h G g) ((c.sW:List A9)++(c.z.S:List A9)++([(c.mb,.map c.esP c.ckP)]:List A9)++(c.su:List A9)++([(c.ip,.cells #[.map (some c.mq),c.lv] 165 (0,0))]:List A9)++([(c.mq,.map c.esQ c.ckQ)]:List A9)++(c.ML:List A9)++([(c.mkb,.map c.esK c.ckK)]:List A9)++(c.MR:List A9)++[]) (Bw fun f B=>by simp only [CA,Fi,D2,CZ.mem,CZ.A75,B]<;>omega)
theorem nD(h:c.ok)(J:x∈c.its):BR prog 11 #[.pointer (some ⟨c.cp,0,none⟩),.string x.key] [c.mem] (fun r H'=>∃B g s,r= .tuple #[.agg #[I4 x.q.kd,I4 x.q.tb,I4 x.q.cl,I4 x.q.lo,I4 x.q.hi,I4 x.q.bq,I4 x.q.ot,I4 x.tn,I4 x.base,.slice B x.L.length g],.bool true]/\GI s (.slice B x.L.length g) x.L/\H'=[c.mem,s]):=EJ (U1 h J) ((c.sW:List A9)++(c.z.S:List A9)++([(c.mb,.map c.esP c.ckP)]:List A9)++(c.su:List A9)++([(c.ip,.cells #[.map (some c.mq),c.lv] 165 (0,0))]:List A9)++([(c.mq,.map c.esQ c.ckQ)]:List A9)++(c.ML:List A9)++([(c.mkb,.map c.esK c.ckK)]:List A9)++(c.MR:List A9)++[]) (Bw fun f G=>by simp only [CA,Fi,D2,CZ.mem,CZ.A75,G]<;>omega) (by
 rintro r H' ⟨B,g,s,I,h2,rfl⟩;exact ⟨_,⟨B,g,s,I,h2,V⟩,Bw fun f G=>by simp only [CA,Fi,D2,CZ.mem,CZ.A75,G]<;>omega⟩)
theorem XL(h:c.ok)(O:x∈c.its)(J:x.base<=c.pos):BR prog 18 #[.pointer (some ⟨c.cp,0,none⟩),.string x.key] [c.mem] (fun r H'=>∃(z:Xx) (l:List BQ) (s:List A9),z.a=⟨x.q,x.res,x.since,c.pos,x.base,x.L,l⟩/\l.map BQ.pc=(Cy c.pos x.base c.win).map BQ.pc/\z.ok s/\r= .tuple #[.agg z.A73,.bool true]/\H'=[c.mem,s]):=EJ (sy h O J) ((c.z.S:List A9)++([(c.mb,.map c.esP c.ckP)]:List A9)++(c.su:List A9)++([(c.ip,.cells #[.map (some c.mq),c.lv] 165 (0,0))]:List A9)++([(c.mq,.map c.esQ c.ckQ)]:List A9)++(c.ML:List A9)++([(c.mkb,.map c.esK c.ckK)]:List A9)++(c.MR:List A9)++[]) (Bw fun f g=>by simp only [CA,Fi,D2,CZ.mem,CZ.A75,g]<;>omega) (by
 rintro r H' ⟨z,l,s,B,h2,G,I,rfl⟩;exact ⟨_,⟨z,l,s,B,h2,G,I,V⟩,Bw fun f g=>by simp only [CA,Fi,D2,CZ.mem,CZ.A75,g]<;>omega⟩)
theorem ux(h:c.okb):BR prog 17 #[.pointer (some ⟨c.cp,0,none⟩)] [c.mem] (fun r H'=>∃(zs:List Bk) (s:List A9),zs.Perm (c.its.map ItM.key)/\(zs.Pairwise fun x y=>x.data.toList<=y.data.toList)/\Row 9 r (zs.map Value.string) s/\H'=[c.mem,s]):=EJ (Ny h) ((c.sW:List A9)++(c.z.S:List A9)++([(c.mb,.map c.esP c.ckP)]:List A9)++(c.su:List A9)++([(c.ip,.cells #[.map (some c.mq),c.lv] 165 (0,0))]:List A9)++([(c.mq,.map c.esQ c.ckQ)]:List A9)++(c.ML:List A9)++([(c.mkb,.map c.esK c.ckK)]:List A9)++(c.SI:List A9)++(c.M:List A9)++(c.MR:List A9)++[]) (Bw fun f g=>by simp only [CA,Fi,D2,CZ.mem,CZ.A75,g]<;>omega) (by
 rintro r H' ⟨zs,s,B,h2,G,rfl⟩;exact ⟨_,⟨zs,s,B,h2,G,V⟩,Bw fun f g=>by simp only [CA,Fi,D2,CZ.mem,CZ.A75,g]<;>omega⟩)
theorem s8(h:c.ok)(pos:Int)(Z:0<=pos/\pos<=10000):BR prog 22 #[.pointer (some ⟨c.cp,0,none⟩),I4 pos] [c.mem] (fun r H'=>r=undef/\∃d:CZ,d.ok/\d.cp=c.cp/\(d.its=[]/\d.PL=[]/\d.win=[])/\d.pos=pos/\d.next=c.next/\d.ns=c.ns/\d.z.cap=c.z.cap/\(d.z.cs=c.z.cs/\∀q∈c.M,q∈d.M)/\H'=[d.mem]):=EJ (dS h pos Z) [] (Bw fun f g=>by simp only [CA,Fi,D2,CZ.mem,CZ.A75,g]<;>omega) (by
 rintro r H' ⟨B,d,h2,G,I,J,O,U,W,X,rfl⟩;exact ⟨_,⟨B,d,h2,G,I,J,O,U,W,X,V⟩,Bw fun f g=>by simp only [CA,Fi,D2,CZ.mem,CZ.A75,g]<;>omega⟩)
theorem zI{B:List A9}(Z:Row 3 v (sh.map (Value.int .i64)) B)(pos cap:Int)(hp:0<=pos/\pos<=10000)(hc:1<=cap/\cap<=1000000)(hl:1<=sh.length/\sh.length<=8)(h0:∀x∈sh,0<=x)(g:sh.sum<=cap):BR prog 8 #[I4 pos,I4 cap,v] [B] (fun r H'=>∃c:CZ,r= .tuple #[.pointer (some ⟨c.cp,0,none⟩),I4 0]/\c.ok/\(c.its=[]/\c.PL=[]/\c.win=[])/\c.pos=pos/\c.next=0/\c.ns=sh.length/\c.z.cap=cap/\Jr c.M c.z.sh sh/\H'=[c.mem,B]):=EJ (oN Z pos cap hp hc hl h0 g) [] (B4) (by
 rintro r H' ⟨c,G,h2,I,J,O,U,W,X,rfl⟩;exact ⟨_,⟨c,G,h2,I,J,O,U,W,X,V⟩,Bw fun f hf=>by simp only [CA,Fi,D2,CZ.mem,CZ.A75,hf]<;>omega⟩)
theorem sC(h:c.ok)(I:Cv ME (.slice qa cs.length cap) cs)(J:EK p cs)(O:p=c.pos+1):BR prog 16 #[.pointer (some ⟨c.cp,0,none⟩),.agg #[I4 p,.slice qa cs.length cap]] [c.mem,ME] (fun r H'=>∃(d:CZ) (q2:B8) (cap2:Nat) (zs:List Bk) (tv:A4) (s:List A9),r= .tuple #[tv,I4 0]/\IJ c d p cs q2 cap2 zs/\Row 9 tv (zs.map Value.string) s/\H'=[d.mem,ME,s]):=EJ (az h I J O) [] (Bw fun f g=>by simp only [CA,Fi,D2,CZ.mem,CZ.A75,g]<;>omega) (by
 rintro r H' ⟨d,q2,cap2,zs,tv,s,U,B,h2,_,G,rfl⟩;exact ⟨_,⟨d,q2,cap2,zs,tv,s,B,h2,G,V⟩,Bw fun f g=>by simp only [CA,Fi,D2,CZ.mem,CZ.A75,g]<;>omega⟩)
theorem ZM(h:c.okb)(g:Cv ME (.slice qa cs.length cap) cs)(B:EK p cs)(I:p≠c.pos+1):BJ prog 16 #[.pointer (some ⟨c.cp,0,none⟩),.agg #[I4 p,.slice qa cs.length cap]] [c.mem,ME] (.tuple #[.slice none 0 0,I4 180]):=JN (bA h g B I) ((c.sW:List A9)++(c.z.S:List A9)++([(c.mb,.map c.esP c.ckP)]:List A9)++(c.su:List A9)++([(c.ip,.cells #[.map (some c.mq),c.lv] 165 (0,0))]:List A9)++([(c.mq,.map c.esQ c.ckQ)]:List A9)++(c.ML:List A9)++([(c.mi,.map c.esI c.ckI)]:List A9)++([(c.mkb,.map c.esK c.ckK)]:List A9)++(c.SI:List A9)++(c.M:List A9)++(c.MR:List A9)++[]) (Bw fun f G=>by simp only [CA,Fi,D2,CZ.mem,CZ.A75,G]<;>omega)
noncomputable instance(a b:Ir):Decidable (a=b):=Classical.propDecidable _
def Ir.ok(h:Ir):Prop:=(0<=h.p/\h.p<=10000)/\h.ch.length=32/\h.st.length=32
instance(h:Ir):Decidable h.ok:=inferInstanceAs(Decidable (_/\_))
def BQ.key(r:BQ):Int×List Chg:=(r.p,r.cs)
def wF(h:Ir)(r:BQ)(st:Bs):Prop:=EK r.p r.cs/\h.ok/\st.length=32/\r.p=h.p+1
noncomputable instance(h:Ir)(r:BQ)(st:Bs):Decidable (wF h r st):=Classical.propDecidable _
def uv(h:Ir)(r:BQ)(st:Bs):Ir:=⟨r.p,tG h.ch (tE r.p r.cs),st⟩
noncomputable def yx(st:Bs):Ir->List BQ->Option Ir
 |h,[]=>some h
 |h,r::l=>if wF h r st then yx st (uv h r st) l else none
def bO(a:Ir)(l:List BQ)(b:Ir):Prop:=a.ok/\b.ok/\yx b.st a l=some b
noncomputable instance(a:Ir)(l:List BQ)(b:Ir):Decidable (bO a l b):=Classical.propDecidable _
def bQ.eqv(a b:bQ):Prop:=a.q=b.q/\a.since=b.since/\a.until_=b.until_/\a.base=b.base/\a.res=b.res/\a.ranges=b.ranges/\a.recs.map BQ.key=b.recs.map BQ.key
instance(a b:bQ):Decidable (a.eqv b):=inferInstanceAs(Decidable (_/\_))
def tg(base until_:Ir)(a:bQ):Prop:=base.p=a.base/\until_.p=a.until_/\bO base a.recs until_/\(∀x∈a.ranges,q4 base.st x)/\∃b,K3 a.q a.base a.ranges a.recs=some b/\a.eqv b
noncomputable instance(base until_:Ir)(a:bQ):Decidable (tg base until_ a):=Classical.propDecidable _
def RP.small(x:RP):Prop:=(∀s∈x.roots,s.length<=140737488354000)/\∀l∈x.paths,l.length<=1000000
def putE(n:Int):Int:=if n< -4611686018427387903 then 10 else 0
theorem K7{z:Int}(k:Int)(B:1<=k)(g:-9223372036854775808<=z)(h2:z<=9223372036854775807):-9223372036854775808<=z.tdiv k/\z.tdiv k<=9223372036854775807:=by
 have h:=Int.natAbs_tdiv_le_natAbs z k;rcases Int.lt_or_le z 0 with hz|hz
 · have:z.tdiv k<=0:=by
    obtain ⟨y,rfl⟩:∃y,z=-y:=⟨-z,by omega⟩;rw [Int.neg_tdiv];have:=Int.tdiv_nonneg (a:=y) (b:=k) A0 A0
    omega
   omega
 · have:=Int.tdiv_nonneg hz (show(0:Int)<=k by omega)
   omega
theorem Uu{kd tb cl lo hi bq ot:Int}(h:(0<=tb/\tb<=3)/\(0<=cl/\cl<=3)/\(-1000000000<=lo/\lo<=hi/\hi<=1000000000)/\
 ((kd=1/\cl=0/\lo=hi/\(1<=lo/\lo<=1000000)/\bq=0/\ot=0)\/((kd=2\/kd=3)/\bq=0/\ot=0)\/
  ((kd=4\/kd=5\/kd=6)/\(1<=bq/\bq<=3)/\ot=0)\/(kd=7/\(1<=bq/\bq<=3)/\(0<=ot/\ot<=3)))):BK ⟨kd,tb,cl,lo,hi,bq,ot⟩:=h
theorem rQ(rs:List AR)(c:Chg):(EL rs c).length<=rs.length+1:=by
 unfold EL Nh;simp only [Bm,CD,CH];split<;>simp only [F2,KK]<;>omega
theorem Sb:∀(cs:List Chg) (rs:List AR),(DV rs cs).length<=rs.length+cs.length
 |[],_=>CI _
 |c::cs,rs=>by
  have g:=Sb cs (EL rs c);have h2:=rQ rs c
  rw [E3];exact Q1 g A0
variable{l:List BQ}
theorem FC.few(h:FC l):∀i,i<=l.length->(Bb (l.take i)).length<=3*i
 |0,_=>by rw [IF];exact CI _
 |i+1,hi=>by
  obtain ⟨r,g⟩:∃r,l[i]?=some r:=⟨_,BT A0⟩;rw [Bn g,Gg];have B:=Sb r.cs (Bb (l.take i))
  have h2:=FC.few h i A0;have G:=(h i r g).2
  omega
variable{M:List A9}
theorem vu{q:B8}(B:Ec M (.slice q l.length cap) l)(g:FC l)(J:l.length<=1000000)(k:Nat)(G:k<=l.length):BR prog 19 #[.slice q l.length cap,I4 (k:Int)] [M] (fun r H'=>∃v s,r= .tuple #[v,I4 0]/\RF v (k:Int) (Bb (l.take k)) s/\H'=[s,M]):=by
 refine Gx (u5 q cap l M B g J k G) V ?_;rintro r H' ⟨Z,X,es,ck,lm,rfl,O,I,rfl⟩;obtain ⟨W,U⟩:=g.rows k G;exact ⟨_,⟨_,_,V,⟨Z,X,es,ck,lm,V,O,I,W,U,V⟩,V⟩,by simp⟩
def Ol(l:List BQ)(a b:Nat):List BQ:=(l.drop a).take (b -a)
theorem qM(h:FC l)(G:l.length<=20)(g:k<=l.length)(q:QM):(CR (Bb (l.take k)) q).length<=100:=by
 have B:=h.few k g;have h2:=(@SS (Bb (l.take k)) q.tb q.cl.toNat q.lo q.hi).1
 unfold CR;omega
theorem mV(rs:List AR)(q:QM):(Ff rs q).length<=1+(CR rs q).length:=by
 unfold Ff;split;· rw [E3,B6];omega
 · simp
def GY(x0 x1 x2 x3 x4:Int):QM:=
 if CF x0 7=0 then⟨((1+CF x0 7:Nat):Int),(CF (x0.tdiv 7) 3:Int),0,((1+CF x1 9:Nat):Int),((1+CF x1 9:Nat):Int),0,0⟩
 else⟨((1+CF x0 7:Nat):Int),(CF (x0.tdiv 7) 3:Int),(CF x1 4:Int),(CF x2 12:Int) -3,(CF x2 12:Int) -3+(CF x3 14:Int),if 3<=CF x0 7 then((1+CF x4 3:Nat):Int)else 0,if CF x0 7=6 then(CF (x4.tdiv 3) 3:Int)else 0⟩
theorem dW(g B I J G:Int):BK (GY g B I J G):=by
 have a0:=Dv g 7 B1;have O:=Dv (g.tdiv 7) 3 B1
 have U:=Dv B 9 B1;have W:=Dv B 4 B1
 have X:=Dv I 12 B1;have Z:=Dv J 14 B1
 have a6:=Dv G 3 B1;have a7:=Dv (G.tdiv 3) 3 B1
 unfold GY;split;· exact Uu A0
 · split<;>split<;>exact Uu A0
theorem Ht(c:Int)(n:Nat)(I:0<n)(B:n<=1000000)(G:-9223372036854775808<=c)(h2:c<=9223372036854775807):BJ prog 7 #[I4 c,I4 (n:Int)] [] (I4 (CF c n:Int)):=by
 refine Se func7 ntmps7 [0,1] ?_;intro u R;refine A1<|A5 Y<|Zq<|A1<|Zm Y<|Zv (EH Y Y)<|A6<|Aw Y (fun g=>?_) (fun g=>?_);·
  refine Zg<|Zm Y<|Yi Y Y ?_;refine BU (jH Y (IntWalk.i64_in _ A0))<|A5 Y<|A1<|Zm Y<|Zm Y<|BU (ru Y Y A0 rfl)<|A5 Y<|AJ<|AP rfl results7 Y (by exact ⟨by rw [<-Ym];simp [*],rfl⟩)
 refine AC<|Zx<|A1<|Zm Y<|Zm Y<|BU (ru Y Y A0 rfl)<|A5 Y<|AJ<|AP rfl results7 Y (by exact ⟨by rw [<-Ym];simp [*],rfl⟩)
set_option maxHeartbeats 1000000 in
theorem rE(g G q2 J I:Int)(O:-9223372036854775808<=g)(U:g<=9223372036854775807)(af:-9223372036854775808<=G)(ax:G<=9223372036854775807)(bn:-9223372036854775808<=q2)(cu:q2<=9223372036854775807)(cO:-9223372036854775808<=J)(d9:J<=9223372036854775807)(W:-9223372036854775808<=I)(X:I<=9223372036854775807):BJ prog 9 #[.agg #[I4 g,I4 G,I4 q2,I4 J,I4 I]] [] (.agg #[I4 (GY g G q2 J I).kd,I4 (GY g G q2 J I).tb,I4 (GY g G q2 J I).cl,I4 (GY g G q2 J I).lo,I4 (GY g G q2 J I).hi,I4 (GY g G q2 J I).bq,I4 (GY g G q2 J I).ot]):=by
 have B:=K7 7 B1 O U;have dn:=Dv (g.tdiv 7) 3 B1
 have Z:=K7 3 B1 W X;have gm:=Dv (I.tdiv 3) 3 B1
 have ic:=Dv g 7 B1;have j3:=Dv G 9 B1
 have ek:=Dv G 4 B1;have j5:=Dv q2 12 B1
 have kv:=Dv J 14 B1;have l5:=Dv I 3 B1
 refine Se func9 ntmps9 [0] ?_;intro u R;refine A1<|Ze (Bx #[_,_,_,_,_])<|AG fun bx=>Ze (Al Lz #[_,_,_,_,_,_,_])<|AG fun br=>A6<|Zb [1,2] ?_;refine CW (e0:=[]) (H0:=[]) (fun e H=>∃(bq:Nat),(True)/\e=[(3,I5 bq)]/\H=[[(bq,.cells #[I4 ((1+CF g 7:Nat):Int),I4 (CF (g.tdiv 7) 3:Int),I4 0,I4 0,I4 0,I4 0,I4 0] 34 (0,0))]]) Wp ?hx_1 ?hy_1
 case hx_1=>
  refine BA (n:=11) (0::1::3::7::0::16::48::119::255::0::1023::[]) 1668 AF AF V ?_;first|(refine Dn (D':=1) 0 (Az (j:=0) Lw AE Y Y ?_) ?_;(focus (first|omega|decide|(simp;done))))|(refine Dn (D':=1) 0 (Cu (j:=0) Lw AE Y Y ?_) ?_;(focus (first|omega|decide|(simp;done))))
  refine BE 1 V AH Y ?_;first|(refine Dn (D':=19) 4 (Az (j:=0) Lw AE Y Y ?_) ?_;(focus (first|omega|decide|(simp;done))))|(refine Dn (D':=19) 4 (Cu (j:=0) Lw AE Y Y ?_) ?_;(focus (first|omega|decide|(simp;done))))
  refine BE 5 V AH Y ?_;refine A3 6 V (Yv (m:=g) (n:=7) Y Y B1 (IntWalk.i64_in _ (by have:=K7 7 B1 O U;omega)))<|Zz (l:=[2,9])<|B7 [true,false] [(5,(_,_))] V rfl (Zu [_,_] Y call7 Y V (Ht g 7 B1 B1 O U)) ?_ (fun _ _ h=>h.elim) ?_;·
   rintro _ _ ⟨rfl,rfl⟩;refine ⟨Zk (AZ),?_⟩;first|(refine Dn (D':=127) 3 (EA (m:=1) Y Y ?_) ?_;(focus (omega)))|(refine Dn (D':=127) 3 (Gm Y Y (IntWalk.i64_in _ ?_)) ?_;(focus (omega)))
   refine Zz (l:=[7,9])<|B7 [false] [] V rfl (Zu [_,_] Y call7 Y V (Ht (g.tdiv 7) 3 B1 B1 B.1 B.2)) ?_ (fun _ _ h=>h.elim) ?_;·
    rintro _ _ ⟨rfl,rfl⟩;refine BW<|A3 8 V (BM (vs:=[(0,I4 ((1+CF g 7:Nat):Int)),(1,I4 (CF (g.tdiv 7) 3:Int))]) (cs:=#[I4 ((1+CF g 7:Nat):Int),I4 (CF (g.tdiv 7) 3:Int),I4 0,I4 0,I4 0,I4 0,I4 0]) Y (AY (pl:=#[(0,1),(1,1),(2,1),(3,1),(4,1),(5,1),(6,1)]) Lz CN (fun _=>by kernel_rfl) AF))<|Yw 9 1023 V (Al Lz #[_,_,_,_,_,_,_])<|AG fun bq=>Yw 10 2047 V (Xw CM #[I4 ((1+CF g 7:Nat):Int),I4 (CF (g.tdiv 7) 3:Int),I4 0,I4 0,I4 0,I4 0,I4 0])<|Cp<|Ag<|Zn [3,1,2] ?_;refine Av (e':=[(3,_)]) (by exact ⟨bq,trivial,V,V⟩)
   refine B7 [true] [(5,(_,_))] V rfl (Al Lz #[_,_,_,_,_,_,_]) ?_ (fun _ _ h=>h.elim) Aj;rintro _ _ ⟨bq,rfl,rfl⟩;refine BW<|Yw 7 767 V (Zu [_,_] Y call7 Y V (Ht (g.tdiv 7) 3 B1 B1 B.1 B.2))<|Cp<|A3 8 V (BM (vs:=[(0,I4 ((1+CF g 7:Nat):Int)),(1,I4 (CF (g.tdiv 7) 3:Int))]) (cs:=#[I4 ((1+CF g 7:Nat):Int),I4 (CF (g.tdiv 7) 3:Int),I4 0,I4 0,I4 0,I4 0,I4 0]) Y (AY (pl:=#[(0,1),(1,1),(2,1),(3,1),(4,1),(5,1),(6,1)]) Lz CN (fun _=>by kernel_rfl) AF))<|Yw 10 2047 V (Xw CM #[I4 ((1+CF g 7:Nat):Int),I4 (CF (g.tdiv 7) 3:Int),I4 0,I4 0,I4 0,I4 0,I4 0])<|Cp<|Ag<|Zn [3,1,2] ?_;refine Av (e':=[(3,_)]) (by exact ⟨bq,trivial,V,V⟩)
  refine B7 [true,true] [(5,(_,_)),(1,(_,_))] V rfl (Al Lz #[_,_,_,_,_,_,_]) ?_ (fun _ _ h=>h.elim) Aj;rintro _ _ ⟨bq,rfl,rfl⟩;refine BW<|Yz 2 3 631 [5,1] [true,false] [(5,(_,_))] V Y V rfl V rfl (Zu [_,_] Y call7 Y V (Ht g 7 B1 B1 O U)) ?_;rintro _ _ ⟨rfl,rfl⟩;refine ⟨Zk (AZ),?_⟩;first|(refine Dn (D':=639) 3 (EA (m:=1) Y Y ?_) ?_;(focus (omega)))|(refine Dn (D':=639) 3 (Gm Y Y (IntWalk.i64_in _ ?_)) ?_;(focus (omega)))
  refine Yw 7 767 V (Zu [_,_] Y call7 Y V (Ht (g.tdiv 7) 3 B1 B1 B.1 B.2))<|Cp<|A3 8 V (BM (vs:=[(0,I4 ((1+CF g 7:Nat):Int)),(1,I4 (CF (g.tdiv 7) 3:Int))]) (cs:=#[I4 ((1+CF g 7:Nat):Int),I4 (CF (g.tdiv 7) 3:Int),I4 0,I4 0,I4 0,I4 0,I4 0]) Y (AY (pl:=#[(0,1),(1,1),(2,1),(3,1),(4,1),(5,1),(6,1)]) Lz CN (fun _=>by kernel_rfl) AF))<|Yw 10 2047 V (Xw CM #[I4 ((1+CF g 7:Nat):Int),I4 (CF (g.tdiv 7) 3:Int),I4 0,I4 0,I4 0,I4 0,I4 0])<|Cp<|Ag<|Zn [3,1,2] ?_;refine Av (e':=[(3,_)]) (by exact ⟨bq,trivial,V,V⟩)
 rintro _ _ ⟨bq,_,rfl,rfl⟩;refine Zq<|A1<|Zh 0 CN V rfl AE Y<|Zl AH Y ?_;first|refine BU (Ci (n:=1) Y Y) ?_|refine BU (CP Y Y) ?_
 refine Z0<|Zx ?_;first|refine Aw Y (fun k1=>?_) (fun k1=>?_)|refine AU Y (fun k1=>?_) (fun k1=>?_)
 ·
  refine Zq<|Zg ?_;first|(refine BU (Az (j:=1) Lw AE Y Y ?_) ?_;(focus (first|omega|decide|(simp;done))))|(refine BU (Cu (j:=1) Lw AE Y Y ?_) ?_;(focus (first|omega|decide|(simp;done))))
  refine Zl AH Y ?_;refine Xr [_,_] Y call7 Y V (Ht G 9 B1 B1 af ax) ?_;first|(refine BU (EA (m:=1) Y Y ?_) ?_;(focus (omega)))|(refine BU (Gm Y Y (IntWalk.i64_in _ ?_)) ?_;(focus (omega)))
  refine Zh 3 CN rfl rfl AE Y<|Xe (Zs AE Y Y rfl (hi:=by first|omega|decide|(simp;done))) ?_;refine A6<|A1<|Zh 3 CN V rfl AE Y<|Zl AH Y ?_;refine Zh 4 CN rfl rfl AE Y<|Xe (Zs AE Y Y rfl (hi:=by first|omega|decide|(simp;done))) ?_;refine Z0<|Zn [2,3] ?_;refine Zx<|A1<|Zo Wh (AB (cs:=#[_,_,_,_,_,_,_]) F1 CM Y Wb (by exact BN V)) ?_;refine Xe (BL CM Y Y p5 Wu (by exact EI rfl) FA Wb (by exact BC _)) ?_;refine A6<|AJ<|Zt<|D6 V results9 Y Wh (Au F1 CM Wn (BN V)) (by
   refine ⟨?_,V⟩;unfold GY;rw [Ax A0]<;>rfl)
 refine AC<|Zx<|Zq<|Zg ?_;first|(refine BU (Az (j:=1) Lw AE Y Y ?_) ?_;(focus (first|omega|decide|(simp;done))))|(refine BU (Cu (j:=1) Lw AE Y Y ?_) ?_;(focus (first|omega|decide|(simp;done))))
 refine Zl AH Y ?_;refine Xr [_,_] Y call7 Y V (Ht G 4 B1 B1 af ax) ?_;refine Zh 2 CN rfl rfl AE Y<|Xe (Zs AE Y Y rfl (hi:=by first|omega|decide|(simp;done))) ?_;refine A6<|Zq<|Zg ?_;first|(refine BU (Az (j:=2) Lw AE Y Y ?_) ?_;(focus (first|omega|decide|(simp;done))))|(refine BU (Cu (j:=2) Lw AE Y Y ?_) ?_;(focus (first|omega|decide|(simp;done))))
 refine Zl AH Y ?_;refine Xr [_,_] Y call7 Y V (Ht q2 12 B1 B1 bn cu) ?_;first|(refine BU (CO (n:=3) Y Y ?_ ?_) ?_;(focus (omega));(focus (omega)))|(refine BU (FP Y Y (IntWalk.i64_in _ ?_)) ?_;(focus (omega)))
 refine Zh 3 CN rfl rfl AE Y<|Xe (Zs AE Y Y rfl (hi:=by first|omega|decide|(simp;done))) ?_;refine Z0<|Zn [1,2,3] ?_;refine Zx<|Zq<|BA (n:=8) (0::1::0::4::12::31::63::127::[]) 144 AF AF V<|A3 0 V (AA (off:=3) CN V rfl AE Y)<|BE 1 V AH Y ?_;first|(refine Dn (D':=7) 2 (Az (j:=3) Lw AE Y Y ?_) ?_;(focus (first|omega|decide|(simp;done))))|(refine Dn (D':=7) 2 (Cu (j:=3) Lw AE Y Y ?_) ?_;(focus (first|omega|decide|(simp;done))))
 refine BE 3 V AH Y ?_;refine Yz 4 12 31 [3,1] [false,true] [(1,(_,_))] V Y V rfl V rfl (Zu [_,_] Y call7 Y V (Ht J 14 B1 B1 cO d9)) ?_;rintro _ _ ⟨rfl,rfl⟩;refine ⟨Zk (AZ),?_⟩;first|(refine Dn (D':=63) 5 (EA Y Y ?_) ?_;(focus (omega)))|(refine Dn (D':=63) 5 (Gm Y Y (IntWalk.i64_in _ ?_)) ?_;(focus (omega)))
 refine A3 6 rfl (AA (off:=4) CN rfl rfl AE Y)<|Zz (l:=[7])<|B7 [false] [] rfl rfl (Zs AE Y Y rfl (hi:=by first|omega|decide|(simp;done))) ?_ (fun _ _ h=>h.elim) Aj;rintro _ _ ⟨rfl,rfl⟩;refine BW<|Ag<|Zx<|Zb [1,2,3] ?_;refine CW (e0:=[]) (H0:=[[(bq,.cells #[I4 ((1+CF g 7:Nat):Int),I4 (CF (g.tdiv 7) 3:Int),I4 (CF G 4:Int),I4 ((CF q2 12:Int) -3),I4 ((CF q2 12:Int) -3+(CF J 14:Int)),I4 0,I4 0] 34 (0,0))]]) (fun e H=>∃(w5:Int),(w5=if 3<=CF g 7 then((1+CF I 3:Nat):Int)else 0)/\e=[]/\H=[[(bq,.cells #[I4 ((1+CF g 7:Nat):Int),I4 (CF (g.tdiv 7) 3:Int),I4 (CF G 4:Int),I4 ((CF q2 12:Int) -3),I4 ((CF q2 12:Int) -3+(CF J 14:Int)),I4 w5,I4 0] 34 (0,0))]]) Wp ?hx_19 ?hy_19
 case hx_19=>
  refine A1<|Zh 0 CN V rfl AE Y<|Zl AH Y ?_;first|refine BU (Gi (n:=4) Y Y) ?_|refine BU (Gj Y Y) ?_
  refine Z0<|Zx ?_;first|refine Aw Y (fun k2=>?_) (fun k2=>?_)|refine AU Y (fun k2=>?_) (fun k2=>?_)
  ·
   refine Zg ?_;first|(refine BU (Az (j:=4) Lw AE Y Y ?_) ?_;(focus (first|omega|decide|(simp;done))))|(refine BU (Cu (j:=4) Lw AE Y Y ?_) ?_;(focus (first|omega|decide|(simp;done))))
   refine Zl AH Y ?_;refine Xr [_,_] Y call7 Y V (Ht I 3 B1 B1 W X) ?_;first|(refine BU (EA (m:=1) Y Y ?_) ?_;(focus (omega)))|(refine BU (Gm Y Y (IntWalk.i64_in _ ?_)) ?_;(focus (omega)))
   refine Zh 5 CN rfl rfl AE Y<|Xe (Zs AE Y Y rfl (hi:=by first|omega|decide|(simp;done))) ?_;refine Z0<|Zn [1,2,3] ?_;refine Av (e':=[]) (by first|exact ⟨_,(Ax A0).symm,rfl,rfl⟩|exact ⟨0,(As A0).symm,rfl,rfl⟩)
  refine AC<|Zn [1,2,3] ?_;refine Av (e':=[]) (by first|exact ⟨_,(Ax A0).symm,rfl,rfl⟩|exact ⟨0,(As A0).symm,rfl,rfl⟩)
 rintro _ _ ⟨w5,gq,rfl,rfl⟩;refine Zb [1,2,3] ?_;refine CW (e0:=[(1,_)]) (H0:=[[(bq,.cells #[I4 ((1+CF g 7:Nat):Int),I4 (CF (g.tdiv 7) 3:Int),I4 (CF G 4:Int),I4 ((CF q2 12:Int) -3),I4 ((CF q2 12:Int) -3+(CF J 14:Int)),I4 w5,I4 0] 34 (0,0))]]) (fun e H=>∃(w6:Int),(w6=if CF g 7=6 then(CF (I.tdiv 3) 3:Int)else 0)/\e=[]/\H=[[(bq,.cells #[I4 ((1+CF g 7:Nat):Int),I4 (CF (g.tdiv 7) 3:Int),I4 (CF G 4:Int),I4 ((CF q2 12:Int) -3),I4 ((CF q2 12:Int) -3+(CF J 14:Int)),I4 w5,I4 w6] 34 (0,0))]]) Wp ?hx_22 ?hy_22
 case hx_22=>
  refine A1<|Zh 0 CN V rfl AE Y<|Zl AH Y ?_;first|refine BU (Ci (n:=7) Y Y) ?_|refine BU (CP Y Y) ?_
  refine Z0<|Zx ?_;first|refine Aw Y (fun k3=>?_) (fun k3=>?_)|refine AU Y (fun k3=>?_) (fun k3=>?_)
  ·
   refine Zg ?_;first|(refine BU (Az (j:=4) Lw AE Y Y ?_) ?_;(focus (first|omega|decide|(simp;done))))|(refine BU (Cu (j:=4) Lw AE Y Y ?_) ?_;(focus (first|omega|decide|(simp;done))))
   refine Zl AH Y ?_;refine Zv (Yv (m:=I) (n:=3) Y Y B1 (IntWalk.i64_in _ (by have:=K7 3 B1 W X;omega)))<|Xr [_,_] Y call7 Y V (Ht (I.tdiv 3) 3 B1 B1 Z.1 Z.2) ?_;refine Zh 6 CN rfl rfl AE Y<|Xe (Zs AE Y Y rfl (hi:=by first|omega|decide|(simp;done))) ?_;refine Z0<|Zn [2,3] ?_;refine Av (e':=[]) (by first|exact ⟨_,(Ax A0).symm,rfl,rfl⟩|exact ⟨0,(As A0).symm,rfl,rfl⟩)
  refine AC<|Zn [2,3] ?_;refine Av (e':=[]) (by first|exact ⟨_,(Ax A0).symm,rfl,rfl⟩|exact ⟨0,(As A0).symm,rfl,rfl⟩)
 rintro _ _ ⟨w6,gy,rfl,rfl⟩;refine A1<|Zo Wh (AB (cs:=#[_,_,_,_,_,_,_]) F1 CM Y Wb (by exact BN V)) ?_;refine Xe (BL CM Y Y p5 Wu (by exact EI rfl) FA Wb (by exact BC _)) ?_;refine A6<|AJ<|D6 V results9 Y Wh (Au F1 CM Wn (BN V)) (by
  refine ⟨?_,V⟩;unfold GY;rw [As A0,<-gq,<-gy]<;>rfl)
variable{q:QM}
set_option maxHeartbeats 1000000 in
theorem XW{p:B8}(O:Ec M (.slice p l.length cap) l)(g:FC l)(X:l.length<=1000000)(a:Nat)(W:a<=l.length)(hq:BK q)(G:(CR (Bb (l.take a)) q).length<=100)(te:Int)(U:AM)(zg:Nat×Nat):BR prog 14 #[.slice p l.length cap,I4 (a:Int),.agg q.A72,I4 te] [[(4,.cells (Ew.map Cz).toArray U zg)],M] (fun w H'=>∃(mem:List A9) (J:B8) (I:Nat),GI mem (.slice J (Ff (Bb (l.take a)) q).length I) (Ff (Bb (l.take a)) q)/\w= .agg #[I4 q.kd,I4 q.tb,I4 q.cl,I4 q.lo,I4 q.hi,I4 q.bq,I4 q.ot,I4 te,I4 (a:Int),.slice J (Ff (Bb (l.take a)) q).length I]/\H'=[mem,[(4,.cells (Ew.map Cz).toArray U zg)],M]):=by
 have d9:=mL;obtain ⟨p9,af,e9,⟨cu,cO⟩,_⟩:=id O;injection e9 with e91 e92 e93
 subst e91 e93;obtain ⟨hs,hn⟩:=g.rows a W;have Z:=g.rowsOk a W
 obtain ⟨L,hL⟩:∃L,L=Ff (Bb (l.take a)) q:=⟨_,rfl⟩;rw [<-hL];refine Se func14 ntmps14 [0,1,2,3] ?_;intro u R;refine A1<|Ze (Bx q.A72)<|AG fun bq=>Ze (Ey Th (cs:=#[I4 0,I4 0,I4 0,I4 0,I4 0,I4 0,I4 0,I4 0,I4 0,.slice none 0 0]) AF)<|AG fun be=>A6<|A1<|Zm Y<|Zm Y<|Zc [_,_] Y call19 Y V (vu O g X a W) ?_;rintro _ _ ⟨_,⟨vs,ss,rfl,hS,rfl⟩,rfl⟩;refine Zm Y<|Zd Y V<|Zd Y V<|Za Y<|A5 Y<|A1<|Zm Y<|Zo Wh (AB (cs:=#[_,_,_,_,_,_,_]) F1 CM Y B5 (by exact BN V)) ?_;refine Zc [_,_] Y call43 Y V (rr _ _ _ _ hS hs hn Z q hq G U zg) ?_;rintro _ _ ⟨_,⟨vo,mem,rfl,B,rfl⟩,rfl⟩;rw [<-hL]at B;obtain ⟨J,I,rfl,ax,bn⟩:=B.form;refine Zm Y<|Zd Y V<|Zd Y V<|Za Y<|AW Y<|Zn [1,3,6,8,11] ?_;refine Zx<|A1<|Zo Wh (AB (cs:=#[_,_,_,_,_,_,_]) F1 CM Y B5 (by exact BN V)) ?_;refine Zm Y<|Zm Y<|Zm Y<|Zv (BM (vs:=[(0,.agg q.A72),(1,I4 te),(2,I4 (a:Int)),(3,.slice J L.length I)]) (cs:=#[I4 q.kd,I4 q.tb,I4 q.cl,I4 q.lo,I4 q.hi,I4 q.bq,I4 q.ot,I4 te,I4 (a:Int),.slice J L.length I]) Y (AY (pl:=#[(0,7),(7,1),(8,1),(9,1)]) Th GB (fun _=>by kernel_rfl) AF))<|Xe (BL HG Y Y Hb Wu (by exact EI rfl) FA B1 (by exact BC _)) ?_;refine A6<|AJ<|D6 V results14 Y Wh (Au Tl HG Wn (BN V)) (by exact ⟨mem,J,I,B,V,V⟩)
def exQ:QM:=⟨3,0,1,10,19,0,0⟩
theorem Tz:BK exQ:=by decide
variable{rs:List AR}
theorem Sc(g:BP rs)(B:rs.length<=2000)(t c:Nat)(lo hi:Int):(Et rs t c lo hi).fits:=by
 have G:=JH g (t:Int) c;refine ⟨?_,?_,?_,Yd g B t c lo hi⟩
 · show(List.take _ (List.drop _ (BO rs (t:Int) c))).length<=_
   rw [CD,CH];omega
 · show(Jv _ _ _).length<=_
   have h2:toT (BO rs (t:Int) c) c hi<=(BO rs (t:Int) c).length:=oc _ _;unfold Jv;rw [B6,Wg];omega
 · show(YA rs).length<=_
   unfold YA;rw [B6];decide
theorem fI(G:BP rs)(B:rs.length<=2000)(q:QM):∀x∈Ff rs q,x.fits:=fun x g=>by
 unfold Ff at g;rcases DB.1 g with rfl|g
 · exact Sc G B _ _ _ _
 · split at g
   · obtain ⟨r,_,rfl⟩:=C6.1 g
     exact Sc G B _ _ _ _
   · cases g
structure O5(l:List BQ):Prop where
 ok:FC l
 len:l.length<=1000
 scan:∀a,a<=l.length->∀q,(CR (Bb (l.take a)) q).length<=100
theorem FC.toB(h:FC l)(B:l.length<=20):O5 l:=⟨h,by omega,fun a g q=>qM h B g q⟩
variable{a:Nat}
theorem O5.start(h:O5 l)(g:a<=l.length)(B:BK q):Eo q (Ff (Bb (l.take a)) q)=some (Cs (Bb (l.take a)) q):=dD (h.ok.rows a g).1 (h.ok.rows a g).2 (h.ok.rowsOk a g) B (h.scan a g q)
theorem O5.make_len(h:O5 l)(g:a<=l.length)(q:QM):(Ff (Bb (l.take a)) q).length<=101:=by
 have B:=mV (Bb (l.take a)) q;have h2:=h.scan a g q
 omega
theorem O5.fits(h:O5 l)(g:a<=l.length)(q:QM):∀x∈Ff (Bb (l.take a)) q,x.fits:=fI (h.ok.rows a g).1 (h.ok.rows a g).2 q
def pF(l:List BQ)(P:Nat)(win:List BQ):Prop:=win.length<=P/\win.map BQ.pc=((l.take P).drop (P -win.length)).map BQ.pc
theorem Y0(l:List BQ)(P:Nat):pF l P []:=⟨C7 _,by
 rw [List.drop_eq_nil_of_le (by simp only [CD,KK];omega)]⟩
variable{P:Nat}{r:BQ}
theorem kE{W W':List BQ}{x:BQ}(h:pF l P W)(B:l[P]?=some x)(g:r.pc=x.pc)(G:Jq W W' r):pF l (P+1) W':=by
 obtain ⟨U,h2⟩:=h;have J:=(C4.1 B).1
 have O:(l.take P).length=P:=by rw [CD];omega
 unfold pF;rw [Bn B];rcases G with⟨rfl,I⟩|⟨rfl,I⟩
 · rw [Bm,F2,show P+1 -(W.length+1)=P -W.length by omega,i6 A0,C0,C0,h2,Lo,Lo,g]
   exact ⟨by omega,V⟩
 · have e:((W++[r]).drop 1).length=64:=by rw [CH,Bm,F2];omega
   have e1:(W++[r]).drop 1=W.drop 1++[r]:=i6 A0;have e2:(l.take P++[x]).drop (P+1 -64)=(l.take P).drop (P+1 -64)++[x]:=i6 A0
   rw [e,e1,e2,C0,C0,jj,h2,<-jj,cA,show P -W.length+1=P+1 -64 by omega,Lo,Lo,g];exact ⟨by omega,V⟩
theorem PW{win:List BQ}(h:pF l P win)(B:a<=P)(G:P -a<=win.length):(Cy (P:Int) (a:Int) win).map BQ.pc=(Ol l a P).map BQ.pc:=by
 obtain ⟨g,h2⟩:=h;unfold Cy Ol;rw [show((P:Int) -(a:Int)).toNat=P -a by omega,jj,h2,<-jj,cA,show P -win.length+(win.length -(P -a))=a by omega,fX]
structure J8(l:List BQ)(P:Nat)(c:CZ):Prop where
 ok:c.ok
 pos:c.pos=(P:Int)
 le:P<=l.length
 win:pF l P c.win
 src:∀x∈c.its,∃a:Nat,x.base=(a:Int)/\a<=l.length/\x.L=Ff (Bb (l.take a)) x.q
theorem J8.at{l:List BQ}(U:O5 l){P:Nat}{c:CZ}(h:J8 l P c){x:ItM}(X:x∈c.its):∃a:Nat,x.base=(a:Int)/\a<=l.length/\x.L=Ff (Bb (l.take a)) x.q/\(a<=P->P -a<=c.win.length/\x.res=Cs (Bb (l.take P)) x.q/\wD x.q l a (P -a) x.since/\GN x.q (a:Int) 0 (Cs (Bb (l.take a)) x.q,(a:Int)) (Ol l a P)=some (x.res,x.since))/\(P<=a->x.res=Cs (Bb (l.take a)) x.q/\x.since=(a:Int)):=by
 obtain ⟨a,J,h2,O⟩:=h.src x X;have G:=h.ok.all x X
 obtain ⟨r0,B,g⟩:=G.run;rw [O,U.start h2 G.q]at B;injection B with B
 subst B;have I:=G.reach
 rw [h.pos,J]at g I;refine ⟨a,J,h2,O,fun W=>?_,fun W=>?_⟩
 · have e:=PW h.win W A0
   rw [OY e]at g;have Z:=h.le
   obtain ⟨e1,e2⟩:=Pi G.q U.ok h2 (P -a) A0 _ g;rw [show a+(P -a)=P by omega]at e1;exact ⟨by omega,e1,e2,g⟩
 · rw [K5 A0]at g
   injection g with g
   exact ⟨(congrArg Prod.fst g).symm,(congrArg Prod.snd g).symm⟩
theorem J8.put(h:J8 l P c)(J:d.ok)(g:c.like d){tn:Int}(I:a<=l.length){R:CB×Int×Bool}{b:Bool}(G:yW c d q tn (a:Int) (Ff (Bb (l.take a)) q) R b):J8 l P d:=by
 refine ⟨J,g.pos.trans h.pos,h.le,by rw [g.win];exact h.win,fun x B=>?_⟩;rcases G with⟨_,rfl,_⟩|⟨_,_,_,⟨rfl,_⟩|⟨_,y,e,e1,e2,e3,_⟩⟩
 · exact h.src x B
 · exact h.src x B
 · rw [e]at B
   rcases C2.1 B with B|B
   · exact h.src x (Fc.1 B).1
   · rw [C5.1 B,e1,e2,e3];exact ⟨a,rfl,I,rfl⟩
variable{q2:B8}{cap2:Nat}{zs:List Bk}
theorem J8.apply(J:O5 l)(h:J8 l P c)(B:l[P]?=some r)(g:IJ c d r.p r.cs q2 cap2 zs):J8 l (P+1) d:=by
 have O:=(C4.1 B).1;have G:=(J.ok P r B).1.pos
 refine ⟨g.ok,by rw [g.pos,G];push_cast;rfl,by omega,kE (r:=⟨r.p,q2,cap2,r.cs⟩) h.win B rfl g.win,fun y W=>?_⟩;obtain ⟨_,x,U,hc,_⟩:=g.i1 y W;obtain ⟨_,_,e1,_,e2,_,_,I⟩:=J3 hc;rw [e1,e2,I];exact h.src x U
theorem J8.next(B:O5 l)(h:J8 l P c)(G:l[P]?=some r):EK r.p r.cs/\r.p=c.pos+1:=by
 have g:=(B.ok P r G).1;exact ⟨g.ok,by rw [g.pos,h.pos]⟩
theorem J8.part(h:J8 l P c)(B:d.ok)(g:c.like d)(G:∀x∈d.its,x∈c.its):J8 l P d:=⟨B,g.pos.trans h.pos,h.le,by rw [g.win];exact h.win,fun x I=>h.src x (G x I)⟩
theorem aW(lt:Int->Int->Bool):∀(ms:List Int) (r:CB),(ms.foldl (fun r n=>(⟨r.rows,if !r.fnd||lt n r.val then n else r.val,true⟩:CB)) r).rows=r.rows
 |[],_=>rfl
 |n::ms,r=>by rw [Up,aW lt ms]
theorem oD(rs:List AR)(q:QM):(Cs rs q).rows.length<=2*(CR rs q).length:=by
 have B:=TR q (CR rs q) (IM rs q.ot);have g:∀lt ms,(EY lt ms).rows=[]:=fun lt ms=>aW lt ms CB.none
 unfold Cs FR;split;· exact C7 _
 · split
   · exact C7 _
   · split
     · rw [g];exact C7 _
     · split
       · rw [g];exact C7 _
       · split
         · exact B
         · show(CR rs q).length<=_;omega
variable{n:Nat}
theorem rF(U:O5 l)(h:J8 l P c)(X:BK q)(I:a<=l.length)(J:∀b,b<=l.length->(Cs (Bb (l.take b)) q).rows.length<=n)(G:(c.pos -(a:Int)).toNat<=c.win.length):(BB q (Cs (Bb (l.take a)) q) (a:Int) (Cy c.pos (a:Int) c.win)).1.rows.length<=n:=by
 cases hr:(BB q (Cs (Bb (l.take a)) q) (a:Int) (Cy c.pos (a:Int) c.win)).2.2 with
 |false=>
  have g:BB q (Cs (Bb (l.take a)) q) (a:Int) (Cy c.pos (a:Int) c.win)=(CB.none,0,false):=by
   unfold BB at hr⊢;split at hr;· cases hr
   · rfl
  rw [g];exact C7 _
 |true=>
  have g:=Ls hr;rw [h.pos]at g G⊢;by_cases B:a<=P
  · rw [OY (PW h.win B A0)]at g
    have W:=h.le;have h2:=(Pi X U.ok I (P -a) A0 _ g).1
    have O:(BB q (Cs (Bb (l.take a)) q) (a:Int) (Cy (P:Int) (a:Int) c.win)).1=_:=h2;rw [O];exact J _ A0
  · rw [K5 A0]
    exact J a I
def bN(l:List BQ)(P:Nat)(c:CZ)(q:QM)(a:Nat):Prop:=P -a<=c.win.length/\∃st,GN q (a:Int) 0 (Cs (Bb (l.take a)) q,(a:Int)) (Ol l a P)=some st
theorem l6(h:P<=a):bN l P c q a:=⟨by omega,(Cs (Bb (l.take a)) q,(a:Int)),by
 rw [show Ol l a P=[] by unfold Ol;rw [show P -a=0 by omega,IF]];rfl⟩
def q6(l:List BQ)(P:Nat)(c d:CZ)(q:QM)(tn:Int)(a:Nat)(n:Nat)(b:Bool):Prop:=
 (b=false/\d=c/\¬bN l P c q a)\/
 (b=true/\bN l P c q a/\(∀e∈d.PL,e∈c.PL\/e.sz<=1+(n:Int))/\
   ((d=c/\∃x∈c.its,x.key=str (Bi q)/\(a:Int)<=x.base)\/
    ((∀x∈c.its,x.key=str (Bi q)->x.base<(a:Int))/\∃y:ItM,d.its=(c.its.filter fun x=>x.key≠str (Bi q))++[y]/\y.q=q/\y.base=(a:Int)/\((y.tn=tn/\∀x∈c.its,x.key≠str (Bi q))\/∃x∈c.its,x.key=str (Bi q)/\y.tn=x.tn))))
theorem Pq(h:J8 l P c):((c.pos -(a:Int)).toNat<=c.win.length/\(BB q (Cs (Bb (l.take a)) q) (a:Int) (Cy c.pos (a:Int) c.win)).2.2=true)↔bN l P c q a:=by
 rw [h.pos];unfold bN;rw [show((P:Int) -(a:Int)).toNat=P -a by omega];by_cases g:P -a<=c.win.length
 · have e:GN q (a:Int) 0 (Cs (Bb (l.take a)) q,(a:Int)) (Cy (P:Int) (a:Int) c.win)=GN q (a:Int) 0 (Cs (Bb (l.take a)) q,(a:Int)) (Ol l a P):=by
    by_cases G:a<=P
    · exact OY (PW h.win G g)
    · rw [K5 A0,show Ol l a P=[] by unfold Ol;rw [show P -a=0 by omega,IF]]
   unfold BB;rw [e];constructor
   · rintro ⟨_,h2⟩
     refine ⟨g,?_⟩;split at h2;· rename_i st h3;exact ⟨st,h3⟩
     · cases h2
   · rintro ⟨_,st,h2⟩
     rw [h2];exact ⟨g,V⟩
 · exact ⟨fun B=>absurd B.1 g,fun B=>absurd B.1 g⟩
theorem u7(G:O5 l)(h:J8 l P c)(I:l[P]?=some r)(O:Cv ME (.slice r.q r.cs.length r.cap) r.cs):BR prog 16 #[.pointer (some ⟨c.cp,0,none⟩),.agg #[I4 r.p,.slice r.q r.cs.length r.cap]] [c.mem,ME] (fun w H'=>∃(d:CZ) (q2:B8) (cap2:Nat) (zs:List Bk) (tv:A4) (s:List A9),w= .tuple #[tv,I4 0]/\J8 l (P+1) d/\IJ c d r.p r.cs q2 cap2 zs/\Row 9 tv (zs.map Value.string) s/\H'=[d.mem,ME,s]):=by
 obtain ⟨J,h2⟩:=h.next G I;refine (sC h.ok O J h2).mono ?_;rintro w H' ⟨d,q2,cap2,zs,tv,s,rfl,B,g,rfl⟩;exact ⟨d,q2,cap2,zs,tv,s,V,h.apply G I B,B,g,V⟩
theorem rN{p:B8}(h:Ec M (.slice p l.length cap) l){i:Nat}(I:l[i]?=some r):Cv M (.slice r.q r.cs.length r.cap) r.cs/\∃g off cur T zz,p=some ⟨g,off,none⟩/\(g,Obj.cells cur T zz)∈M/\off+i*2+2<=cur.size/\cur.extract (off+i*2) (off+i*2+2)=#[I4 r.p,.slice r.q r.cs.length r.cap]:=by
 obtain ⟨J,B,e,_,G⟩:=h;injection e with e1 e2 e3
 subst e1 e3;exact G i r I
theorem Xn(g:1<=q.kd/\q.kd<=4)(r:CB)(cs:List Chg):(BX q r cs).2.2=true:=by
 obtain ⟨G,B⟩:=SC g cs r;unfold BX;rw [B]
theorem tY(g:∀k,k∈zs↔k=K)(h2:zs.Nodup):zs=[K]:=by
 cases zs with
 |nil=>exact absurd ((g K).2 rfl) B4
 |cons a l=>
  have B:=(g a).1 (E0 ..);subst B;cases l with
  |nil=>rfl
  |cons b l=>
   have G:=(g b).1 B4;subst G;simp at h2
variable{e:AM}{xs:List A4}{s:List A9}
theorem xG(h:Row e v xs s)(B:0<xs.length):∃g cap cur z,v=I6 g xs.length cap/\s=[(g,.cells cur e z)]/\xs.length<=cur.size/\∀i,i<xs.length->cur[i]?=xs[i]?:=by
 rcases h with⟨_,h0,_⟩|⟨g,cap,cur,z,rfl,rfl,h1,h2,h3,h4,h5⟩
 · rw [h0]at B;cases B
 · refine ⟨g,cap,cur,z,rfl,rfl,by omega,fun i hi=>?_⟩
   have h:=congrArg (fun l=>l[i]?) h4;simp only [HI,Ax hi]at h;simpa using h
theorem qZ(g:Nat)(v:A4):Row e (I6 g 1 1) [v] [(g,.cells #[v] e (0,0))]:= .inr ⟨g,1,#[v],(0,0),rfl,rfl,CI 1,by decide,rfl,rfl,BC _⟩
theorem wm(h:c.okb)(G:c.ns=1)(hi:c.its=[x])(I:∀e∈c.PL,e.sz<=1):Ck c.PL ((0:Nat):Int)=1:=by
 have h2:(c.PL.map (·.key)).Perm (c.its.map ItM.key):=(OS h.pool.keys h.its.keys).2 h.pk;have B:=h2.length_eq
 rw [B6,B6,hi]at B
 match hP:c.PL,B with
 |[e],_=>
  have g:e∈c.PL:=by rw [hP];simp
  have J:=h.pool.te e g;have O:=h.pool.sz e g
  have U:=I e g;unfold Ck;rw [Lo,List.sum_singleton,Ax A0];omega
def exD(k a b:Int):Chg:=⟨0,k,false,⟨0,0,0⟩,true,⟨a,b,7⟩⟩
def aZ(p1 p2:B8):List BQ:=[⟨1,p1,1,[exD 5 10 2]⟩,⟨2,p2,1,[exD 6 11 9]⟩]
theorem xU{k a b:Int}(g:1<=p/\p<=10000)(h:(exD k a b).ok):EK p [exD k a b]:=⟨g,⟨CI _,by show 1<=8;decide⟩,fun i c hc=>by
 match i,hc with
 |0,hc=>injection hc with hc;rw [<-hc];exact h
 |i+1,hc=>simp at hc,fun i b c B hc=>by simp at hc⟩
theorem jd{k a b:Int}(B:1<=p+1/\p+1<=10000)(h:(exD k a b).ok)(g:GX rs (exD k a b))(hz:Gr rs [exD k a b]<=2000):Ke rs p (p+1) [exD k a b]:=⟨xU B h,rfl,fun c hc=>by rw [C5.1 hc];exact g,hz⟩
def exS:Nat->List AR
 |0=>[]
 |1=>[⟨0,5,⟨10,2,7⟩⟩]
 |_=>[⟨0,5,⟨10,2,7⟩⟩,⟨0,6,⟨11,9,7⟩⟩]
theorem W9(g B:B8):Bb ((aZ g B).take 0)=exS 0/\Bb ((aZ g B).take 1)=exS 1/\Bb ((aZ g B).take 2)=exS 2:=⟨rfl,by kernel_rfl,by kernel_rfl⟩
theorem yO(B G:B8):FC (aZ B G):=fun i r g=>by
 obtain ⟨h0,I,_⟩:=W9 B G
 match i,g with
 |0,g=>injection g with g;subst g;rw [h0];exact ⟨jd (p:=0) B1 B1 (by unfold GX;decide) B1,by show 1<=3;decide⟩
 |1,g=>injection g with g;subst g;rw [I];exact ⟨jd (p:=1) B1 B1 (by unfold GX;decide) B1,by show 1<=3;decide⟩
 |i+2,g=>simp [aZ]at g
structure q7(l:List BQ):Prop where
 b:O5 l
 len:l.length=2
 e2:(Cs (Bb (l.take 2)) exQ).val=2
 e1:(Cs (Bb (l.take 1)) exQ).val=1
 two:∃r,l[1]?=some r/\(∃ch∈r.cs,Ct exQ ch=true)/\Rf exQ r=true
theorem U5(rs:List AR):(Cs rs exQ).rows=[]:=rfl
theorem uu(g B:B8):q7 (aZ g B):=by
 obtain ⟨_,G,h2⟩:=W9 g B;refine ⟨(yO g B).toB (by show 2<=20;decide),rfl,by rw [h2];decide,by rw [G];decide,_,rfl,⟨exD 6 11 9,.head _,by decide⟩,?_⟩;exact (by decide:[exD 6 11 9].any (Dk exQ)=true)
theorem Vw(hi:c.its=[])(g:c.PL=[]){tn:Int}(G:P<=a){b:Bool}(B:q6 l P c d q tn a n b):b=true/\∃y:ItM,d.its=[y]/\y.q=q/\y.key=str (Bi q)/\y.base=(a:Int)/\∀e∈d.PL,e.sz<=1+(n:Int):=by
 rcases B with⟨_,_,h⟩|⟨h1,_,h2,⟨_,x,hx,_⟩|⟨_,y,h3,h4,h5,_⟩⟩
 · exact absurd (l6 G) h
 · rw [hi]at hx;cases hx
 · refine ⟨h1,y,by rw [h3,hi];rfl,h4,by unfold ItM.key;rw [h4],h5,fun e I=>?_⟩
   rcases h2 e I with h9|h9
   · rw [g]at h9;cases h9
   · exact h9
theorem qX(h:Row e v xs s)(B:xs.length=n)(h0:0<n):∃g cap cur z,v=I6 g n cap/\s=[(g,.cells cur e z)]/\n<=cur.size/\∀i,i<n->cur[i]?=xs[i]?:=by
 subst B;exact xG h h0
theorem jB(h:Row e v xs s)(g:xs.length=n):∃p cap,v= .slice p n cap:=by
 subst g;obtain ⟨p,cap,h⟩:=h.form;exact ⟨p,cap,h⟩
theorem zR(g:IJ c d p cs q2 cap2 zs){y:ItM}(hi:c.its=[y])(G:Xu cs y)(B:y.base<p):zs=[y.key]:=tY (fun k=>by
 rw [g.z1,hi];constructor;· rintro ⟨x,I,rfl,_⟩;rw [C5.1 I]
 · rintro rfl;exact ⟨y,by simp,rfl,G,B⟩) g.z2
theorem wN(g:IJ c d p cs q2 cap2 zs)(B:∀x∈c.its,p<=x.base):zs=[]:=qT.2 fun k G=>by
 obtain ⟨x,I,_,_,h⟩:=(g.z1 k).1 G;have:=B x I
 omega
theorem jW(O:IJ c d p cs q2 cap2 zs){y:ItM}(hi:c.its=[y])(hb:p -64<=y.base)(hk:1<=y.q.kd/\y.q.kd<=4):∃B,d.its=[B]/\B.q=y.q/\B.key=y.key/\B.base=y.base:=by
 obtain ⟨B,I,hc⟩:=O.i2 y (by rw [hi];simp) hb fun _ _=>Xn hk _ _;have U:=O.ok.its.keys
 have g:∀w∈d.its,w=B:=fun w W=>by
  obtain ⟨_,x,X,G,_⟩:=O.i1 w W;rw [hi]at X;rw [C5.1 X]at G;exact Ga U W I ((MQ G).trans (MQ hc).symm)
 obtain ⟨_,_,e1,_,e2,_⟩:=J3 hc;refine ⟨B,?_,e1,MQ hc,e2⟩;have J:=U
 match hE:d.its,I,J with
 |[w],_,_=>rw [g w (by rw [hE];simp)]
 |w::w2::L,_,J=>
  have Z:=g w (by rw [hE];simp);have h2:=g w2 (by rw [hE];simp)
  rw [Z,h2]at J;simp at J
def shT(sh:List Int)(t:Int):Int:=(sh[t.toNat]?).getD 0
theorem Wt(g:k<sh.length):sh[k]?=some (shT sh (k:Int)):=by
 unfold shT;rw [UP,BT g];rfl
def MI(sh:List Int)(L:List Bf)(t sz:Int)(x:Bf):Bool:=
 if shT sh t -sz<Ck L t then decide (x.te=t)else decide (x.te≠t)&&decide (shT sh x.te<=Ck L x.te -x.sz)
def JX(sh:List Int)(L:List Bf)(t sz:Int):Option Bf:=L.find? (MI sh L t sz)
def p6:Option Bf->A4
 |some e=>pV e.b
 |none=> .pointer none
def EZ(sh:List Int)(cap t sz:Int):Nat->List Bf->List Bf×List Bf
 |0,L=>(L,[])
 |n+1,L=>if cap -Fj L<sz then match JX sh L t sz with
   |none=>(L,[])
   |some x=>((EZ sh cap t sz n (L.filter fun y=>y.key≠x.key)).1,x::(EZ sh cap t sz n (L.filter fun y=>y.key≠x.key)).2)
  else(L,[])
theorem LC{A B:List Bf}{x:Bf}(h:((A++x::B).map (·.key)).Nodup):(A++x::B).filter (fun y=>y.key≠x.key)=A++B:=by
 rw [C0,Dd,GW,HK]at h;rw [Hj,Wr,As B4];congr 1;· refine cN.2 fun y g=>DG fun e=>h.2.2 _ (DS g) _ (E0 ..) e
 · refine cN.2 fun y g=>DG fun e=>h.2.1.1 (e▸DS g)
variable{sz t:Int}
theorem gK{cap:Int}{A B:List Bf}{x:Bf}(G:((A++x::B).map (·.key)).Nodup)(g:cap -Fj (A++x::B)<sz)(h2:JX sh (A++x::B) t sz=some x):
 EZ sh cap t sz (A++x::B).length (A++x::B)=((EZ sh cap t sz (A++B).length (A++B)).1,x::(EZ sh cap t sz (A++B).length (A++B)).2):=by
 rw [show(A++x::B).length=(A++B).length+1 by simp;omega];rw [EZ,Ax g,h2];simp only [LC G]
variable{L:List Bf}
theorem gL{cap:Int}(h2:JX sh L t sz=none):EZ sh cap t sz L.length L=(L,[]):=by
 cases hL:L.length with
 |zero=>rfl
 |succ n=>
  rw [EZ,h2];split<;>rfl
theorem WB{cap:Int}(g:¬cap -Fj L<sz):EZ sh cap t sz L.length L=(L,[]):=by
 cases hL:L.length with
 |zero=>rfl
 |succ n=>rw [EZ,As g]
theorem jF{nx bf:Nat->A4}{r:Nat}{l:List Nat}(h:H6 nx bf r l)(G:k<=l.length):∃a c,(r::l)[k]?=some a/\(l++[r])[k]?=some c/\nx a=pV c:=by
 have B:=Hw r l r;have h2:=JB r l r
 have I:(EW r l r).length=l.length+1:=by
  have:=congrArg List.length B;simpa using this
 obtain ⟨q,g⟩:∃q,(EW r l r)[k]?=some q:=⟨_,BT A0⟩;refine ⟨q.1,q.2,?_,?_,(h q (DQ g)).1⟩;· rw [<-B,DP,g];rfl
 · rw [<-h2,DP,g];rfl
def ym(z':BS)(e:Bf)(z:BS):Prop:=∃p n,z'.bf e.b=pV p/\z'.nx e.b=pV n/\p∈z'.bl/\n∈z'.bl/\z={z' with nx:=Cq z'.nx p (pV e.b),bf:=Cq z'.bf n (pV e.b),fr:=z'.fr -1*e.sz}
def UE(ns mb:Nat):List Bf->BS->List Bf->BS->List Bf->Prop
 |[],z,L,z0,L0=>z=z0/\L=L0
 |y::ys,z,L,z0,L0=>∃A B zb,L=A++B/\ym z y zb/\(∃es ck lm su,CK zb ns (A++y::B) mb es ck lm su)/\UE ns mb ys zb (A++y::B) z0 L0
variable{z:BS}{ns mb ck:Nat}{es:Array MapEntry}{lm:List (Bk×A4)}{su:List A9}
theorem Yj{G:Array MapEntry}{B:Nat}{g:List (Bk×A4)}{I:List A9}(h:CK z ns L mb es ck lm su)(J:Co (fun k:Bk=>Value.string k) G B g)(O:∀p,p∈g↔∃e∈L,p=(e.key,pV e.b))(U:Row 3 z.us ((List.range ns).map fun k:Nat=>Value.int .i64 (Ck L (k:Int))) I):CK z ns L mb G B g I:=
 ⟨h.sub,h.ring,h.mv,J,O,h.keys,U,h.te,h.sz,h.free,h.room,h.sh,h.cap⟩
theorem Uy{f:Nat->A4}{w:A4}(h:f a=v):Cq (Cq f a w) a v=f:=by
 funext x;unfold Cq;split;· rename_i e;rw [e,h]
 · rfl
theorem CK.free_le(h:CK z ns L mb es ck lm su):z.fr<=1000000:=by
 have g:=h.free;have h2:=h.cap;have B:=NU h.sz 0
 omega
theorem QD(h:Dp K lm=some v):(K,v)∈lm:=by
 unfold Dp at h;obtain ⟨p,g,e⟩:=lf.1 h;have B:=cy g
 have h2:=dp g;have G:p.1=K:=by simpa using h2
 rw [<-G,<-e];exact B
theorem CK.find(h:CK z ns L mb es ck lm su)(K:Bk):(Dp K lm=Option.none/\∀e∈L,e.key≠K)\/∃A y B,L=A++y::B/\y.key=K/\Dp K lm=some (pV y.b):=by
 by_cases I:∃e∈L,e.key=K
 · obtain ⟨y,J,g⟩:=I
   obtain ⟨A,B,e⟩:=Wf J;exact .inr ⟨A,y,B,e,g,by rw [<-g];exact h.get J⟩
 · have G:∀e∈L,e.key≠K:=fun e O g=>I ⟨e,O,g⟩
   exact .inl ⟨h.none G,G⟩
instance:Inhabited Bf:=⟨⟨0,⟨#[]⟩,0,0⟩⟩
def zP(M:List A9)(v:A4)(ls:List Bf):Prop:=∃p cap,v= .slice p ls.length cap/\True/\∀(i:Nat) (x:Bf),ls[i]?=some x->∃g off cur T zz,p=some ⟨g,off,none⟩/\(g,Obj.cells cur T zz)∈M/\cur[off+i]?=some (pV x.b)
theorem oF{T:AM}{ls:List Bf}(h:Row T v (ls.map fun e=>pV e.b) s):zP s v ls:=by
 rcases h with⟨hv,h0,_⟩|⟨g,cap,cur,z,hv,hs,h1,h2,h3,h4,_⟩
 · have G:ls=[]:=by simpa using h0
   subst G;obtain ⟨p,c,e⟩:∃p c,v= .slice p 0 c:=by exact ⟨none,0,hv⟩
   exact ⟨p,c,e,trivial,fun i x B=>by simp at B⟩
 · rw [B6]at hv h1
   subst hs;refine ⟨some ⟨g,0,none⟩,cap,hv,trivial,fun i x B=>⟨g,0,cur,T,z,V,C5.2 V,?_⟩⟩;have hi:=(C4.1 B).1
   have I:=congrArg (fun l=>l[i]?) h4;simp only [HI,B6,Ax hi,DP,B]at I;rw [D3];simpa using I
theorem mX(z:BS)(G:z.bl.Nodup){e:Bf}(I:e∈z.E){p:Nat}(O:p∈z.bl)(J:n∈z.bl)(g:z.bf e.b=pV p)(B:z.nx e.b=pV n):BR prog 137 #[.pointer (some ⟨e.b,0,none⟩)] [z.S] (fun v H'=>v=undef/\H'=[({z with nx:=Cq z.nx p (pV e.b),bf:=Cq z.bf n (pV e.b)}:BS).S]):=by
 obtain ⟨c1,T1,U,s1,X⟩:=z.upd G O;obtain ⟨c2,T2,W,s2,Z⟩:=BS.upd ({z with nx:=Cq z.nx p (pV e.b)}:BS) G J;refine Se func137 ntmps137 [0] ?_;intro u R;refine BA (n:=16) (0::1::3::7::0::16::48::112::0::0::511::1535::3583::8191::16383::32767::[]) 36864 AF AF V<|A3 0 V (AO Y)<|A3 1 V (Ak Y V)<|A3 2 V (AA (off:=3) HD V rfl H4 Y)<|Cc (D':=15) 3 V rfl V (Dy Wo (z.node I)) (BF SJ Y (congrArg some g)) ?_;refine A3 4 V (AO Y)<|A3 5 V (Ak Y V)<|A3 6 V (AA (off:=4) HD V rfl H4 Y)<|Cc (D':=255) 7 V rfl V (Dy Wo (z.node I)) (BF SJ Y (congrArg some B)) ?_;refine A3 8 V (AO Y)<|A3 9 V (AO Y)<|A3 10 V (Ak Y V)<|A3 11 V (AA (off:=4) HD V rfl H4 Y)<|Zz (l:=[12])<|B7 [false,false] [] V rfl (Fh H4 Y Y V Wo (U) (by exact (X _).1) A0 (by exact BC _)) ?_ (fun _ _ h=>h.elim) Aj;rintro _ _ ⟨rfl,rfl⟩;refine BW<|A3 13 V (Ak Y V)<|A3 14 V (AA (off:=3) HD V rfl H4 Y)<|Zz (l:=[15])<|B7 [] [] V rfl (Fh H4 Y Y V Wo (W) (by exact (Z _).2) A0 (by exact BC _)) ?_ (fun _ _ h=>h.elim) Aj;rintro _ _ ⟨rfl,rfl⟩;refine BW<|Ag<|Ce V results137 (by exact ⟨V,V⟩)
theorem ky{nx bf:Nat->A4}{r:Nat}{l1 l2:List Nat}{x:Nat}(hn:(r::(l1++x::l2)).Nodup)(h:H6 nx bf r (l1++x::l2)):∃p n,p∈r::(l1++l2)/\n∈r::(l1++l2)/\bf x=pV p/\nx x=pV n/\nx p=pV x/\bf n=pV x/\H6 (Cq nx p (pV n)) (Cq bf n (pV p)) r (l1++l2):=by
 obtain ⟨p,n,U,h2,J,O,W⟩:=YS hn h;obtain ⟨A,g,X⟩:=Kt r l1;obtain ⟨n',B,Z⟩:=Su l2 r;have e1:EW r (l1++x::l2) r=A++(g,x)::(x,n')::B:=by rw [KL,X,Z];simp
 have G:=h (g,x) (by rw [e1];simp);have I:=h (x,n') (by rw [e1];simp)
 have inj:∀{a b:Nat},pV a=pV b->a=b:=fun e=>by unfold pV at e;injection e with e;injection e with e;injection e
 obtain rfl:g=p:=inj (G.2.symm.trans J);obtain rfl:n'=n:=inj (I.1.symm.trans O);exact ⟨g,n',U,h2,J,O,G.1,I.2,W⟩
set_option maxHeartbeats 1000000 in
theorem V5{O U:List Bf}{e:Bf}(g:CK z ns (O++e::U) mb es ck lm su)(hd:z.bl.Nodup):BR prog 81 #[.pointer (some ⟨z.r,0,none⟩),.pointer (some ⟨e.b,0,none⟩)] [z.S,[(mb,.map es ck)],su] (fun v H'=>v=undef/\∃J X W j3 ax,(J.r=z.r/\J.cap=z.cap/\J.E=z.E/\J.sh=z.sh)/\ym J e z/\CK J ns (O++U) mb X W j3 ax/\H'=[J.S,[(mb,.map X W)],ax]):=by
 have he:e∈z.E:=g.sub e B4;have B:=g.nodup hd
 obtain ⟨p,n,hp,hn,Z,af,G⟩:=ky (l1:=O.map (·.b)) (l2:=U.map (·.b)) (x:=e.b) (by simpa using B) (by simpa using g.ring);obtain ⟨gy,ek,G⟩:=G;have I:∀q,q∈z.r::(O.map (·.b)++U.map (·.b))->q∈z.bl:=fun q hq=>by
  rcases DB.1 hq with rfl|hq
  · exact E0 ..
  · rw [<-C0]at hq
    obtain ⟨x,hx,rfl⟩:=C6.1 hq;exact E7 _ (DS (g.sub x (by rcases C2.1 hx with h|h<;>simp [h])))
 rw [<-C0]at G;have o8:=g.te e B4
 obtain ⟨k,hk⟩:∃k:Nat,e.te=(k:Int):=⟨e.te.toNat,by omega⟩;have cO:k<ns:=by omega
 have o9:=g.use (k:Int);have l9:=g.size (e:=e) B4
 have l5:=g.room;have l8:=g.free_le
 have gq:e.b≠p:=fun h9=>by
  rw [<-h9,<-C0]at hp;rw [C0,Dd,HK,GW,HK]at B;rcases DB.1 hp with h8|h8
  · exact B.1 (by rw [<-h8];simp)
  · rw [C0]at h8
    rcases C2.1 h8 with h8|h8
    · exact B.2.2.2 _ h8 _ (E0 ..) rfl
    · exact B.2.2.1.1 h8
 have dn:e.b≠n:=fun h9=>by
  rw [<-h9,<-C0]at hn;rw [C0,Dd,HK,GW,HK]at B;rcases DB.1 hn with h8|h8
  · exact B.1 (by rw [<-h8];simp)
  · rw [C0]at h8
    rcases C2.1 h8 with h8|h8
    · exact B.2.2.2 _ h8 _ (E0 ..) rfl
    · exact B.2.2.1.1 h8
 refine Se func81 ntmps81 [0,1] ?_;intro u R;refine A1<|Zm Y<|Zc [_] Y call131 Y V (QS z hd he (I p hp) (I n hn) Z af) ?_;rintro _ _ ⟨_,⟨rfl,rfl⟩,rfl⟩;refine A6<|Zq<|BA (n:=9) (0::1::3::7::0::16::48::112::255::[]) 256 AF AF V<|A3 0 V (AO Y)<|A3 1 V (Ak Y V)<|A3 2 V (AA (off:=8) HR V rfl ee Y)<|Cc (D':=15) 3 V rfl V (Dy Wo ((BS.root ({z with nx:=Cq z.nx p (pV n),bf:=Cq z.bf n (pV p)}:BS)))) (BF isAgg154 Y (congrArg some g.mv)) ?_;refine A3 4 V (AO Y)<|A3 5 V (Ak Y V)<|A3 6 V (AA (off:=0) HD V rfl Fm Y)<|Cc (D':=255) 7 V rfl V (Dy Wo ((BS.node ({z with nx:=Cq z.nx p (pV n),bf:=Cq z.bf n (pV p)}:BS) he))) (BF Hh Y B0) ?_;refine Yw 8 511 V (K6 (Dt HA (D:=fun _=>True)) ft g.map (fun _ _=>trivial) (trivial) Y Y Wo) ?_;rintro _ _ ⟨rfl,cu,bn,j5,d9,gm,rfl⟩;refine Ag<|Zx<|Zg<|Zm Y<|Zm Y<|Zc [_,_,_] Y call86 Y rfl (LH ({z with nx:=Cq z.nx p (pV n),bf:=Cq z.bf n (pV p)}:BS) hd he (.inr rfl) g.used hk (k:=k) (x:=Ck (O++e::U) (k:Int)) (by rw [DP,Ss cO];rfl) A0 A0 (by show _<=z.fr/\z.fr<=_;omega)) ?_;rintro _ _ ⟨_,⟨rfl,kv,ic,rfl⟩,rfl⟩;refine Z0<|Ce V results81 (by
  refine ⟨V,({z with nx:=Cq z.nx p (pV n),bf:=Cq z.bf n (pV p),fr:=z.fr -(-1)*e.sz}:BS),cu,bn,j5,kv,⟨V,V,V,V⟩,⟨p,n,(EO _ _ dn).trans Z,(EO _ _ gq).trans af,I p hp,I n hn,?_⟩,Sg g G d9 gm hk ic,V⟩;show z={z with nx:=Cq (Cq z.nx p (pV n)) p (pV e.b),bf:=Cq (Cq z.bf n (pV p)) n (pV e.b),fr:=z.fr -(-1)*e.sz -1*e.sz}
  rw [Uy gy,Uy ek,show z.fr -(-1)*e.sz -1*e.sz=z.fr by omega])
set_option maxHeartbeats 1000000 in
theorem oo{I J:List Bf}{e:Bf}(g:CK z ns (I++J) mb es ck lm su)(hd:z.bl.Nodup){zb:BS}(hU:ym z e zb)(G:∃es ck lm su,CK zb ns (I++e::J) mb es ck lm su):BR prog 84 #[.pointer (some ⟨z.r,0,none⟩),.pointer (some ⟨e.b,0,none⟩)] [z.S,[(mb,.map es ck)],su] (fun v H'=>v=undef/\∃X U gm af,CK zb ns (I++e::J) mb X U gm af/\H'=[zb.S,[(mb,.map X U)],af]):=by
 obtain ⟨p,n,cu,d9,hp,hn,O⟩:=hU;obtain ⟨kv,j5,o8,o9,G⟩:=G;have he:e∈z.E:=by have h9:=G.sub e B4;rw [O]at h9;exact h9
 have l8:=G.te e B4;obtain ⟨k,hk⟩:∃k:Nat,e.te=(k:Int):=⟨e.te.toNat,by omega⟩;have Z:k<ns:=by omega
 have l9:=g.use (k:Int);have l5:=G.size (e:=e) B4
 have ic:=g.room;have j3:=g.free_le
 refine Se func84 ntmps84 [0,1] ?_;intro u R;refine A1<|Zm Y<|Zc [_] Y call137 Y V (mX z hd he hp hn cu d9) ?_;rintro _ _ ⟨_,⟨rfl,rfl⟩,rfl⟩;refine A6<|Zq<|BA (n:=10) (0::1::3::7::0::16::48::112::0::511::[]) 512 AF AF V<|A3 0 V (AO Y)<|A3 1 V (Ak Y V)<|A3 2 V (AA (off:=8) HR V rfl ee Y)<|Cc (D':=15) 3 V rfl V (Dy Wo ((BS.root ({z with nx:=Cq z.nx p (pV e.b),bf:=Cq z.bf n (pV e.b)}:BS)))) (BF isAgg154 Y (congrArg some g.mv)) ?_;refine A3 4 V (AO Y)<|A3 5 V (Ak Y V)<|A3 6 V (AA (off:=0) HD V rfl Fm Y)<|Cc (D':=255) 7 V rfl V (Dy Wo ((BS.node ({z with nx:=Cq z.nx p (pV e.b),bf:=Cq z.bf n (pV e.b)}:BS) he))) (BF Hh Y B0) ?_;refine A3 8 V (AO Y)<|Zz (l:=[9])<|B7 [false,false] [] V rfl (FH (Dt HA (D:=fun _=>True)) ft g.map (fun _ _=>trivial) (trivial) Y Y Y Wo) ?_ (fun _ _ h=>h.elim) Aj;rintro _ _ ⟨rfl,bn,ax,gq,cO,dn,rfl⟩;refine BW<|Ag<|Zx<|Zg<|Zm Y<|Zm Y<|Zc [_,_,_] Y call86 Y rfl (LH ({z with nx:=Cq z.nx p (pV e.b),bf:=Cq z.bf n (pV e.b)}:BS) hd he (.inl rfl) g.used hk (k:=k) (x:=Ck (I++J) (k:Int)) (by rw [DP,Ss Z];rfl) A0 A0 (by show _<=z.fr/\z.fr<=_;omega)) ?_;rintro _ _ ⟨_,⟨rfl,gy,ek,rfl⟩,rfl⟩;refine Z0<|Ce V results84 (by
  refine ⟨rfl,bn,ax,gq,gy,Yj G cO (fun q=>?_) ?_,by rw [O]⟩
  · rw [dn,g.mem]
    constructor
    · rintro (rfl|⟨⟨x,hx,rfl⟩,_⟩)
      · exact ⟨e,by simp,rfl⟩
      · exact ⟨x,by rcases C2.1 hx with h|h<;>simp [h],rfl⟩
    · rintro ⟨x,hx,rfl⟩
      rcases C2.1 hx with h|h
      · exact .inr ⟨⟨x,Ek _ h,rfl⟩,fun W=>by
         have B:=G.keys;rw [C0,Dd,GW]at B;exact B.2.2 _ (DS h) _ (E0 ..) W⟩
      · rcases DB.1 h with rfl|h
        · exact .inl rfl
        · exact .inr ⟨⟨x,G2 _ h,rfl⟩,fun W=>by
           have B:=G.keys;rw [C0,Dd,GW,HK]at B;exact B.2.1.1 (W▸DS h)⟩
  · have W:zb.us=z.us:=by rw [O]
    rw [W,<-Pv (v:=I4 (Ck (I++J) (k:Int)+1*e.sz)) (fun i:Nat=>Value.int .i64 (Ck (I++J) (i:Int))) (fun i:Nat=>Value.int .i64 (Ck (I++e::J) (i:Int))) Z (by
     show Value.int .i64 _=Value.int .i64 _;rw [GM,GM,FU,Ax hk];congr 1;omega) (fun i _ hi=>by
     show Value.int .i64 _=Value.int .i64 _;rw [GM,GM,FU,As A0];congr 1;omega)]
    exact ek)
variable{MS:List A9}{m:Int}
theorem ZX(B:CK z ns L mb es ck lm su)(U:Jr MS z.sh sh)(d9:sh.length=ns)(I:∀x∈sh,0<=x/\x<=1000000)(hk:k<ns)(hm:0<=m/\m<=1000000):BJ prog 133 #[.pointer (some ⟨z.r,0,none⟩),I4 (k:Int),I4 m] [z.S,su,MS] (.bool (decide (shT sh (k:Int) -m<Ck L (k:Int)))):=by
 have hu:=B.use (k:Int);obtain ⟨bu,cu,cur,zu,G,rfl,bn,ax,g,Z⟩:=Ob B.used (k:=k) (y0:=I4 (Ck L (k:Int))) (by rw [DP,Ss hk];rfl);rw [B6,Wg]at G;obtain ⟨ps,cs,X,O⟩:=id U;obtain ⟨gs,os,af,Ts,zs,rfl,W,J⟩:=O _ _ (Wt (k:=k) A0);have cO:=I _ (DQ (Wt (sh:=sh) (k:=k) A0))
 refine Se func133 ntmps133 [0,1,2] ?_;intro u R;refine A1<|A5 Y<|Zq<|BA (n:=18) (0::1::3::7::0::31::63::0::128::384::896::0::3968::8064::0::32640::65535::131071::[]) 0 AF AF V<|A3 0 V (AO Y)<|A3 1 V (Ak Y V)<|A3 2 V (AA (off:=7) HR V rfl aE Y)<|Cc (D':=15) 3 V rfl V (Dy Wo (z.root)) (BF W8 Y (congrArg some G)) ?_;refine A3 4 rfl (AO Y)<|A3 5 rfl (Be DE AE Y Y (by first|omega|(rw [D3];omega)))<|BE 6 rfl AH Y (hv:=by exact g)<|A3 7 rfl (AO Y)<|A3 8 rfl (Ak Y rfl)<|A3 9 rfl (AA (off:=6) HR rfl rfl aE Y)<|Cc (D':=2047) 10 rfl rfl rfl (Dy Wo (z.root)) (BF W8 Y (congrArg some X)) ?_;refine A3 11 rfl (AO Y)<|A3 12 rfl (CG DE AE Y Y (by first|omega|(rw [D3];omega)))<|Cc (D':=16383) 13 rfl rfl rfl (Dy Wo (W)) (BF AH Y J) ?_;refine A3 14 V (AO Y) ?_
 (refine Dn (D':=65535) 15 (FP Y Y (IntWalk.i64_in _ ?_)) ?_;(focus (omega)))
 refine A3 16 V (Ed Y Y)<|A3 17 V (Aq Y)<|Ag<|Zn [6] ?_;refine Zx<|AJ<|AP V results133 Y (by exact ⟨V,V⟩)
theorem vk(r:Nat):BR prog 135 #[I5 r] [] (fun v H'=>∃b,v= .func (.func 187) #[] #[I5 b]/\H'=[[(b,.cells #[I5 r] 229 (0,0))]]):=by
 refine Se func135 ntmps135 [0] ?_;intro u R;refine A1<|Ze (Bx #[_])<|AG fun b=>A5 Y<|A1<|Zv (Bg (vs:=[]) (us:=[_]) Y Y)<|A5 Y<|AJ<|AP V results135 Y (by exact ⟨_,V,V⟩)
theorem vv(G:CK z ns L mb es ck lm su)(hd:z.bl.Nodup)(hL:L.length<=1000000)(b:Nat):Kb prog 187 #[I5 b] [[(b,.cells #[.pointer (some ⟨z.r,0,none⟩)] 229 (0,0))]] (fun s=>∀c∈z.S,c∈s) (fun x:Bf=>#[pV x.b]) L:=by
 intro l J Jx hA hy s W;have cu:=G.nodup hd
 obtain ⟨a0,c0,d9,ek,ic⟩:=jF G.ring (k:=0) (C7 _);obtain rfl:z.r=a0:=by simpa using d9
 refine Se func187 ntmps187 [0,1] ?_;intro u R;refine A1<|Zl isAgg229 Y<|Zp Y V<|Zh 0 dv V rfl cX Y<|Zh 4 HD V rfl H4 Y<|CS (IX Wo (hA _ s W _ z.root)) (BF SJ Y (congrArg some ic)) V rfl<|A5 Y<|AQ<|Zb [3,0,1] ?_;refine BI (e0:=[(3,_)]) (fun m e H=>∃(k I:Nat) (s:List A9),m=L.length -k/\((k<=L.length/\(L.map (·.b)++[z.r])[k]?=some I)/\J (L.take k) s)/\e=[(3,pV I)]/\H=[[(b,.cells #[.pointer (some ⟨z.r,0,none⟩)] 229 (0,0))],s]) (by exact ⟨0,c0,s,V,⟨⟨C7 _,ek⟩,W⟩,V,V⟩) Wp ?_;rintro _ _ _ ⟨k,I,s,rfl,⟨⟨hk,g⟩,W⟩,rfl,rfl⟩;unfold pV;have af:I∈z.bl:=by
  rcases C2.1 (DQ g)with h9|h9
  · obtain ⟨y,l8,rfl⟩:=C6.1 h9
    exact E7 _ (DS (G.sub y l8))
  · rw [C5.1 h9];exact E0 ..
 obtain ⟨cc,Tc,gq,_,_⟩:=z.upd hd af;have ax:=hA _ s W _ gq
 obtain ⟨cr,cO,gy,_,_⟩:=z.upd hd (a:=z.r) (E0 ..);have bn:=hA _ s W _ gy
 refine Zq<|A1<|Zm Y<|Zl isAgg229 Y<|Zp Y rfl<|Zh 0 dv rfl rfl cX Y<|CS (cs:=[(I,.cells cc Tc (0,0)),(z.r,.cells cr cO (0,0))]) (by intro c hc;simp only [DB,Pc,OR]at hc;rcases hc with rfl|rfl<;>simp [ax,bn]) (eY underlying155 (rfl:Tryz.prog.info? 157=some Tryz.t157) B1 Y Y) rfl rfl ?_;refine A6<|AU Y (fun B=>?_) (fun B=>?_);·
  have B:I≠z.r:=HO B;have U:k<L.length:=by
   rcases FF k L.length with h9|h9
   · exact h9
   · obtain rfl:k=L.length:=by omega
     rw [RM B4,B6,T5]at g;injection g with g
     exact absurd g.symm B
  obtain ⟨x,hx⟩:∃x,L[k]?=some x:=⟨_,BT U⟩;have l5:x.b=I:=by
   rw [Wa (by simpa using U),DP,hx]at g;injection g
  subst l5;have kv:=G.sub x (DQ hx)
  obtain ⟨a1,c1,O,gm,j3⟩:=jF G.ring (k:=k+1) (by rw [B6];omega);have dn:a1=x.b:=by
   rw [ar,DP,hx]at O;injection O with O;exact O.symm
  subst dn;have l9:=hy _ _ _ s (KA hx) W
  refine AC<|Zx<|Zq<|AQ<|A1<|Zm Y<|Zm Y<|Ze (Fe (vs:=[_]) Y Y (l9) Wp) ?_;rintro _ _ ⟨_,⟨s',rfl,o8⟩,rfl⟩;rcases o8 with⟨rfl,X⟩|⟨rfl,hJx⟩
  ·
   refine Zv (Bt Y)<|A6<|AU Y (fun Z=>by cases Z)<|fun Z=>AC<|A8<|Zx<|Zg<|Zm Y<|Zp Y V<|Zh 4 HD V rfl H4 Y<|CS (IX Wo (hA _ s' X _ (z.node kv))) (BF SJ Y (congrArg some j3)) V rfl<|AW Y<|Zn [3,0,1] ?_;refine Aa (e':=[(3,_)]) (by exact ⟨k+1,c1,s',rfl,⟨⟨by omega,gm⟩,by rw [Bn hx];exact X⟩,rfl,rfl⟩)
  refine Zv (Bt Y)<|A6<|AU Y (fun Z=>?_) (fun Z=>?_);·
   refine AJ<|Ab<|Zt<|Zt<|Ab ?_;refine Ce V results187 (by exact ⟨s',V,.inr ⟨_,hJx⟩⟩)
  cases Z
 have B:I=z.r:=I0.1 (ab B);have U:k=L.length:=by
  rcases FF k L.length with h9|h9
  · exfalso
    have j5:I≠z.r:=by
     rw [Wa (by simpa using h9)]at g;rw [HK]at cu;rintro rfl;exact cu.1 (DQ g)
    exact j5 B
  · omega
 rw [U,G3]at W;refine BD<|Zt<|Zt<|AV<|Ce V results187 (by exact ⟨s,V,.inl W⟩)
theorem kH(g:CK z ns L mb es ck lm su)(U:Jr MS z.sh sh)(W:sh.length=ns)(O:∀x∈sh,0<=x/\x<=1000000)(Z:k<ns)(hm:0<=m/\m<=1000000)(G I:Nat)(J:shT sh (k:Int) -m<Ck L (k:Int)){x:Bf}(X:x∈L):BJ prog 132 #[pV x.b,I5 G] [z.S,su,MS,[(G,.cells #[I4 (k:Int)] 3 (0,0))],[(I,.cells #[.pointer (some ⟨z.r,0,none⟩)] 87 (0,0))]] (.bool (MI sh L (k:Int) m x)):=by
 have B:=g.sub x X;unfold pV;refine Se func132 ntmps132 [0,1] ?_;intro u R;refine A1<|A5 Y<|Zq<|BA (n:=7) (0::1::3::7::0::31::63::[]) 0 AF AF V<|A3 0 V (AO Y)<|A3 1 V (Ak Y V)<|A3 2 V (AA (off:=1) HD V rfl AE Y)<|Cc (D':=15) 3 V rfl V (Dy Wo (z.node B)) (BF AH Y B0) ?_;refine BE 4 rfl AH Y<|A3 5 rfl (CP Y Y)<|A3 6 rfl (Aq Y)<|Ag<|Zx<|AJ<|AP rfl results132 Y (by exact ⟨by unfold MI;rw [Ax J],rfl⟩)
theorem kG(g:CK z ns L mb es ck lm su)(af:Jr MS z.sh sh)(gq:sh.length=ns)(W:∀x∈sh,0<=x/\x<=1000000)(hk:k<ns)(hm:0<=m/\m<=1000000)(bt bp:Nat)(h9:¬shT sh (k:Int) -m<Ck L (k:Int)){x:Bf}(hx:x∈L):BJ prog 134 #[pV x.b,I5 bt,I5 bp] [z.S,su,MS,[(bt,.cells #[I4 (k:Int)] 3 (0,0))],[(bp,.cells #[.pointer (some ⟨z.r,0,none⟩)] 87 (0,0))]] (.bool (MI sh L (k:Int) m x)):=by
 have B:=g.sub x hx;have ic:=g.te x hx
 have gy:=g.size hx;obtain ⟨i,hi⟩:∃i:Nat,x.te=(i:Int):=⟨x.te.toNat,by omega⟩;have U:i<ns:=by omega
 have hu:=g.use (i:Int);obtain ⟨bu,cu,cur,zu,J,rfl,ek,dn,I,cO⟩:=Ob g.used (k:=i) (y0:=I4 (Ck L (i:Int))) (by rw [DP,Ss U];rfl);rw [B6,Wg]at J;obtain ⟨ps,cs,bn,Z⟩:=id af;obtain ⟨gs,os,d9,Ts,zs,rfl,ax,X⟩:=Z _ _ (Wt (k:=i) A0);have gm:=W _ (DQ (Wt (sh:=sh) (k:=i) A0))
 unfold pV;refine Se func134 ntmps134 [0,1,2] ?_;intro u R;refine A1<|A5 Y<|Zq<|BA (n:=35) (0::1::3::7::0::31::63::127::255::511::1023::127::2175::6271::14463::32767::65535::127::131199::393343::917631::2097151::127::4194431::12583039::29360255::127::67108991::201326719::469762175::1069547647::2143289471::4294967295::8589934591::17179869183::[]) 0 AF AF V<|A3 0 V (AO Y)<|A3 1 V (Ak Y V)<|A3 2 V (AA (off:=1) HD V rfl AE Y)<|Cc (D':=15) 3 V rfl V (Dy Wo (z.node B)) (BF AH Y (by exact congrArg (fun t=>some (Value.int .i64 t)) hi)) ?_;refine BE 4 V AH Y<|A3 5 V (FY Y Y)<|A3 6 V (AO Y)<|DF (t:=11) Y (fun G=>?_) (fun G=>?_);·
  rw [DG G];refine DO 7 V Wh (BF LN Y B0)<|An 8 V (Ak Y V)<|An 9 V (AA (off:=7) HR V rfl aE Y)<|Iz (D':=2047) 10 Y V rfl V (Dy Wo (z.root)) (BF W8 Y (congrArg some J)) ?_;refine An 11 V (AO Y)<|An 12 V (Ak Y V)<|An 13 V (AA (off:=1) HD V rfl AE Y)<|Iz (D':=32767) 14 Y V rfl V (Dy Wo (z.node B)) (BF AH Y (by exact congrArg (fun t=>some (Value.int .i64 t)) hi)) ?_;refine An 15 rfl (Be DE AE Y Y (by first|omega|(rw [D3];omega)))<|DO 16 rfl Wh (BF AH Y I)<|An 17 rfl (AO Y)<|An 18 rfl (Ak Y rfl)<|An 19 rfl (AA (off:=2) HD rfl rfl AE Y)<|Iz (D':=2097151) 20 Y rfl rfl rfl (Dy Wo (z.node B)) (BF AH Y B0) ?_;refine An 21 V (FP Y Y (IntWalk.i64_in _ A0))<|DO 22 V Wh (BF LN Y B0)<|An 23 V (Ak Y V)<|An 24 V (AA (off:=6) HR V rfl aE Y)<|Iz (D':=67108863) 25 Y V rfl V (Dy Wo (z.root)) (BF W8 Y (congrArg some bn)) ?_;refine An 26 V (AO Y)<|An 27 V (Ak Y V)<|An 28 V (AA (off:=1) HD V rfl AE Y)<|Iz (D':=1073741823) 29 Y V rfl V (Dy Wo (z.node B)) (BF AH Y (by exact congrArg (fun t=>some (Value.int .i64 t)) hi)) ?_;refine An 30 rfl (CG DE AE Y Y (by first|omega|(rw [D3];omega)))<|Iz (D':=4294967295) 31 Y rfl rfl rfl (Dy Wo (ax)) (BF AH Y X) ?_;refine An 32 V (Gj Y Y)<|A3 33 V (AX Y Y)<|A3 34 V (Aq Y)<|Ag<|Zn [4] ?_;refine Zx<|AJ<|AP V results134 Y (by
   refine ⟨?_,V⟩;unfold MI;rw [As h9,hi];have O:(¬(i:Int)=(k:Int))↔¬i=k:=by omega
   simp [G,O])
 rw [Cl G];refine AN 7 V<|AN 8 V<|AN 9 V<|AN 10 V<|AN 11 V<|AN 12 V<|AN 13 V<|AN 14 V<|AN 15 V<|AN 16 V<|AN 17 V<|AN 18 V<|AN 19 V<|AN 20 V<|AN 21 V<|AN 22 V<|AN 23 V<|AN 24 V<|AN 25 V<|AN 26 V<|AN 27 V<|AN 28 V<|AN 29 V<|AN 30 V<|AN 31 V<|AN 32 V<|A3 33 V (AL Y Y)<|A3 34 V (Aq Y)<|Ag<|Zn [4] ?_;refine Zx<|AJ<|AP V results134 Y (by
  refine ⟨?_,V⟩;unfold MI;rw [As h9,hi];have O:(¬(i:Int)=(k:Int))↔¬i=k:=by omega
  simp [G,O])
theorem ng{α:Type}{f:α->Bool}{pre post:List α}{x:α}(h:∀y∈pre,f y=false)(g:f x=true):(pre++x::post).find? f=some x:=by
 rw [List.find?_append,cP.2 (fun y B=>by rw [h y B];decide),List.find?_cons,g];rfl
set_option maxHeartbeats 1000000 in
theorem Y4(G:CK z ns L mb es ck lm su)(W:Jr MS z.sh sh)(X:sh.length=ns)(U:∀x∈sh,0<=x/\x<=1000000)(hd:z.bl.Nodup)(hL:L.length<=1000000)(hk:k<ns)(hm:0<=m/\m<=1000000):BJ prog 82 #[.pointer (some ⟨z.r,0,none⟩),I4 (k:Int),I4 m] [z.S,su,MS] (p6 (JX sh L (k:Int) m)):=by
 refine DU func82 V ntmps82 V ?_;intro u R;refine Zb [0,1,2] ?_;refine A1<|Ze (Bx #[_])<|AG fun Z=>Ze (Bx #[_])<|AG fun J=>Ze (Al gC #[_])<|AG fun br=>A6<|A1<|Zv (Bg (vs:=[]) (us:=[_]) Y Y)<|Ze (Al zeroValue240 #[_])<|AG fun bf=>Xe (Zs sizeOf240 Y Y V)<|A6<|Zb [2,4,3,6,7] ?_;refine CW (e0:=[(2,_),(4,_)]) (H0:=[[(bf,_)]]) (fun e H=>∃(fi:Nat) (ca:AK),((∀(args:AK) (w:AD),(callFunc fi args).run prog w= .ok (.enter fi args) w)/\∀x∈L,BJ prog fi (([]:List A4)++[pV x.b]++ca.toList).toArray [z.S,su,MS,[(J,.cells #[I4 (k:Int)] 3 (0,0))],[(Z,.cells #[.pointer (some ⟨z.r,0,none⟩)] 87 (0,0))]] (.bool (MI sh L (k:Int) m x)))/\e=[]/\H=[[(bf,.cells #[.func (.func fi) #[] ca] 240 (0,0))]]) Wp ?hx_1 ?hy_1
 case hx_1=>
  refine A1<|Zl LN Y<|Zl AH Y<|Zm Y<|Xr [_,_,_] Y call133 Y V (ZX G W X U hk hm)<|Zv (DD Y)<|A6<|Aw Y (fun B=>?_) (fun B=>?_);·
   have B:¬shT sh (k:Int) -m<Ck L (k:Int):=by simpa using B
   refine Zg<|Zv (Bg (vs:=[]) (us:=[_,_]) Y Y)<|Xe (Zs sizeOf240 Y Y V)<|Z0<|Zn [3,6,7] ?_;refine Av (e':=[]) (by exact ⟨134,#[I5 J,I5 Z],⟨call134,fun x hx=>kG G W X U hk hm J Z B hx⟩,V,V⟩)
  have B:shT sh (k:Int) -m<Ck L (k:Int):=by simpa using B
  refine AC<|Zn [3,6,7] ?_;refine Av (e':=[]) (by exact ⟨132,#[I5 J],⟨call132,fun x hx=>kH G W X U hk hm J Z B hx⟩,V,V⟩)
 rintro _ _ ⟨fi,ca,⟨bn,cu⟩,rfl,rfl⟩;refine Zq<|A1<|Zl LN Y<|Zp Y V<|Zh 0 HR V rfl sizeOf159 Y<|Zc [_] Y call135 Y V (vk z.r) ?_;rintro _ _ ⟨_,⟨bo,rfl,rfl⟩,rfl⟩;refine A6<|AQ<|Zb [6,7,19] ?_;refine PQ (Ix:=(fun(_:List Bf) H=>H=[z.S,su,MS,[(J,.cells #[I4 (k:Int)] 3 (0,0))],[(Z,.cells #[.pointer (some ⟨z.r,0,none⟩)] 87 (0,0))],[(bf,.cells #[.func (.func fi) #[] ca] 240 (0,0))],[(br,.cells #[p6 (JX sh L (k:Int) m)] 155 (0,0))]])) (H0:=_) (R:=_) (I:=(fun(pre:List Bf) H=>(∀y∈pre,MI sh L (k:Int) m y=false)/\H=[z.S,su,MS,[(J,.cells #[I4 (k:Int)] 3 (0,0))],[(Z,.cells #[.pointer (some ⟨z.r,0,none⟩)] 87 (0,0))],[(bf,.cells #[.func (.func fi) #[] ca] 240 (0,0))],[(br,.cells #[.pointer none] 155 (0,0))]])) (E:=fun x e Hn=>e=[(8,pV x.b),(20,pV x.b)]/\Hn=[]) rfl Y call187 (vv G hd hL bo) (by rintro pre _ c d ⟨h1,rfl⟩;intro q hq;simp [hq]) Y rfl Wp (⟨fun y hy=>by simp at hy,rfl⟩) ?ha_5 ?hbd_5 ?hk_5 ?hkx_5
 case ha_5=>
  intro _ x _ _;refine Zg<|AW Y<|L6 (e:=[(8,_),(20,_)]) (Hn:=[]) ?_;exact ⟨V,V⟩
 case hbd_5=>
  intro l pre x post u e9 gm H1 R1 r9 af hI ax;obtain ⟨rfl,rfl⟩:=ax;obtain ⟨g,rfl⟩:=hI;have dn:x∈L:=by rw [af];simp
  refine AQ<|A1<|Zl isAgg240 Y<|Zm Y<|Xr [_] Y (bn) Y V (cu x dn)<|A6<|AU Y (fun h1=>?_) (fun h1=>?_);·
   have d9:JX sh L (k:Int) m=some x:=by
    have B:=ng (f:=MI sh L (k:Int) m) (post:=post) g h1;rw [<-af]at B;exact B
   refine A1<|Zm Y<|Xe (Zs H4 Y Y V (hc:=by exact V))<|A6<|AJ<|Ab ?_;refine Vd V (by
    show _=_;rw [d9])
  refine AC<|A8<|QC rfl (by exact ⟨fun y hy=>(C2.1 hy).elim (g y) (fun h=>by rw [C5.1 h];simpa using h1),rfl⟩)
 case hk_5=>
  intro D1 H2 O;obtain ⟨g,rfl⟩:=O;have cO:JX sh L (k:Int) m=none:=cP.2 fun y hy=>by rw [g y hy];decide
  refine Zn [6] ?_;refine A8<|Zx<|A1<|Xe (Zs H4 Y Y rfl)<|A6<|AJ<|Ve rfl results82 Y Wo Wh (M8 SJ (rfl)) (by exact ⟨by rw [cO];rfl,rfl⟩)
 intro D1 ek H2 O;subst O;refine Ab<|Zt<|Ve V results82 Y Wo Wh (M8 SJ (V)) (by exact ⟨V,V⟩)
end Go.Proofs.YthhakdmlpngcmaaGreatDoor
