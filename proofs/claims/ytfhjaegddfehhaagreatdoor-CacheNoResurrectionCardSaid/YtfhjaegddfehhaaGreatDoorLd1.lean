/- Apply. -/
import Derived.Test.YtfhjaegddfehhaaGreatDoorCa11
set_option linter.unusedVariables false
set_option linter.unusedSimpArgs false
namespace Go.Proofs.YtfhjaegddfehhaaGreatDoor
open Go.Proofs.Tryz
open Go Go.RowKit Gw
set_option maxRecDepth 100000
attribute [local irreducible] Gw.At Gw.Nx Gw.Ops
variable{i:Nat}
theorem Rn{α:Type}{l:List α}(hn:l.Nodup){x:α}(h:l[i]?=some x):x∉l.take i:=fun g=>by
 have h2:l=l.take i++x::l.drop (i+1):=by
  obtain ⟨m,B⟩:=BE.1 h;rw [<-B,<-RK m,Iv]
 rw [h2,H3]at hn;exact hn.2.2 x g x (E4 ..) V
variable{c:CZ}{p:Int}{qa:Option Addr}{cap:Nat}{cs:List Chg}{ME:List AA}
theorem ak(h:c.ok)(hC:Ck ME (.slice qa cs.length cap) cs)(hR:EJ p cs)(hp:p=c.pos+1):Ba prog 12 #[.pointer (some ⟨c.cp,0,none⟩),.agg #[I4 p,.slice qa cs.length cap]] [[(c.cp,.cells c.A62 108 (0,0))],c.sW,c.z.S,[(c.mb,.map c.esP c.ckP)],c.su,[(c.ip,.cells #[.map (some c.mq),c.lv] 163 (0,0))],[(c.mq,.map c.esQ c.ckQ)],c.ML,[(c.mi,.map c.esI c.ckI)],[(c.mkb,.map c.esK c.ckK)],c.SI,c.M,c.MR,ME] (fun r H'=>∃(d:CZ) (q2:Option Addr) (cap2:Nat) (zs:List ByteArray) (tv:Value) (s sM:List AA),r= .tuple #[tv,I4 0]/\H8 c d p cs q2 cap2 zs/\d.M=sM++c.M/\Row 9 tv (zs.map Value.string) s/\H'=[[(d.cp,.cells d.A62 108 (0,0))],d.sW,d.z.S,[(d.mb,.map d.esP d.ckP)],d.su,[(d.ip,.cells #[.map (some d.mq),d.lv] 163 (0,0))],[(d.mq,.map d.esQ d.ckQ)],d.ML,[(d.mi,.map d.esI d.ckI)],[(d.mkb,.map d.esK d.ckK)],d.SI,d.M,d.MR,ME,s]):=by
 have zb:=mL;obtain ⟨p9,wo,e9,zf,za⟩:=id hC;injection e9 with e91 e92 e93
 subst e91 e93;have zm:=h.pos
 have zl:=hR.pos;have yt:=hR.len
 have zt:=h.wl;have zq:=Ex h.win
 have gB:∀ch∈cs,ch.ok:=fun ch ax=>by
  obtain ⟨i,hi⟩:=GW ax;exact hR.all i ch hi
 have qy:∀x∈c.its.map ItM.iq,BJ x.2:=fun y hy=>by
  obtain ⟨x,hx,rfl⟩:=Bm.1 hy;exact h.its.q x hx
 have qx:(c.its.map ItM.iq).length<=500:=by rw [B4];exact h.its.len
 refine DL func12 V ntmps12 V ?_;intro u R;refine Zb [0,1] ?_;refine A0<|Ze (Bx #[_])<|AE fun bc=>Ze (Bx #[I4 p,.slice qa cs.length cap])<|AE fun br=>Za Y<|A3 Y<|Zq<|AR<|A0<|Zl KB Y ?_;refine Zv (Be O2 Y Y)<|A3 Y<|AX Y (fun gy=>by cases gy)<|fun gy=>Zq<|Az (n:=14) (0::1::3::7::15::31::15::79::207::463::975::2047::4095::8191::[]) 2 A6 A6 V<|E7 0 V Wh (A9 (cs:=#[_,_]) HX F0 Y As (BK V)) ?_;refine Yw 1 3 V (Zu [_] Y call39 Y V (Pp p qa cap cs ME hC)) ?_;rintro _ _ ⟨rfl,rfl⟩;rw [Cp hR];refine A2 2 V (Br Y)<|A2 3 V (AP Y)<|CU (t:=19) Y (fun g1=>?_) (fun g1=>?_);·
  rw [g1];cases g1
 rw [g1];refine An 4 V (AB (off:=0) G3 V rfl A4 Y)<|DH 5 V Wh (BP AD Y AN) ?_;refine DH 6 V Wh (BP KB Y AN) ?_;refine An 7 V (Ap Y V)<|An 8 V (AB (off:=0) Ek V rfl A4 Y)<|DH 9 V Wh (BP AD Y AN) ?_
 (refine An 10 rfl (He Y Y (IntWalk.i64_in _ ?_)) ?_;(focus (omega)))
 refine An 11 V (GG Y Y)<|A2 12 V (AL Y Y)<|A2 13 V (Av Y)<|Ag<|Zn [2,3,15] ?_;refine Zx<|Aq Y (fun h3=>by omega)<|fun h3=>AC<|A8<|Zx<|A0<|Zl KB Y ?_;refine Zh 0 G3 V rfl A4 Y<|Zl AD Y ?_;refine Zp Y V<|Zh 0 Ek V rfl A4 Y<|Xe (Zs A4 Y Y V) ?_;refine A5<|Zq<|Az (n:=12) (0::0::2::6::14::0::32::96::254::511::1023::2047::[]) 2496 A6 A6 V<|B2 0 V KB Y ?_;refine B2 1 V KB Y ?_;refine A2 2 V (Ap Y V)<|A2 3 V (AB (off:=1) Ek V rfl Lo Y)<|B2 4 V T6 Y ?_;refine E7 5 V Wh (A9 (cs:=#[_,_]) HX F0 Y As (BK V)) ?_;refine Zz (l:=[6])<|B1 [false,true,true,true] [(4,(_,_)),(1,(_,_)),(0,(_,_))] V rfl (Zw [_] Y call40 Y V (Qk p hC A1)) ?_ Bv Ai;rintro _ _ ⟨_,⟨q2,cap2,s2,rfl,gm,rfl⟩,rfl⟩;refine B6<|Yz 7 96 255 [4,1,0] [true,true,true] [(4,(_,_)),(1,(_,_)),(0,(_,_))] V Y V rfl V rfl (Ah (vs:=[_]) (cs:=[_,_]) Fo F0 Sx Y V rfl V rfl V)<|AE fun gb=>B6<|Yz 8 254 511 [4,1,0] [false,false,true] [(0,(_,_))] V Y V rfl V rfl (BR (by_:=32) (sz:=2) Fo (V:Tryz.prog.info? 50=some Tryz.t50) V rfl V rfl Y (h.win) Y (D8 2 gb 1 1 50 (0,0) [I4 p,.slice q2 cs.length cap2] V) Wo Wo Fm A1 A1) ?_;rintro _ _ ⟨J,Z,rfl⟩;refine ⟨Zk (Aa),?_⟩;obtain ⟨U,K,rfl⟩:=Z.form;refine A2 9 V (Ap Y V)<|A2 10 V (AB (off:=1) Ek V rfl Lo Y)<|Zz (l:=[11])<|B1 [false] [] V rfl (Zs Lo Y Y V (hi:=by(simp;done))) ?_ (fun _ _ h=>h.elim) Ai;rintro _ _ ⟨rfl,rfl⟩;refine B6<|Ag<|Zn [2,3] ?_;refine Zx ?_;have X:=BS Z (n':=(c.win++[(⟨p,q2,cap2,cs⟩:BN)]).length) (xs':=Du (c.win++[(⟨p,q2,cap2,cs⟩:BN)])) (by rw [B7];rfl) (by rw [Kc];rfl)
 have B:(c.win++[(⟨p,q2,cap2,cs⟩:BN)]).length=c.win.length+1:=by rw [B7];rfl
 refine CK (s1:=s2) (s2:=c.M) Wo Wo ?_;refine Zb [2,3] ?_;refine DJ (e0:=[]) (H0:=[[(c.cp,.cells #[I4 p,.slice U (c.win.length+1) K,.pointer (some ⟨c.z.r,0,none⟩),.pointer (some ⟨c.ip,0,none⟩),.map (some c.mi),.map (some c.mkb),I4 c.next] 108 (0,0))],J,(s2++c.M)]) (fun e H=>∃(W:List BN) (wq:Option Addr) (wc:Nat) (sW s0:List AA),(J8 c.win W ⟨p,q2,cap2,cs⟩/\Bc 2 50 (.slice wq W.length wc) W.length (Du W) sW)/\e=[]/\H=[[(c.cp,.cells #[I4 p,.slice wq W.length wc,.pointer (some ⟨c.z.r,0,none⟩),.pointer (some ⟨c.ip,0,none⟩),.map (some c.mi),.map (some c.mkb),I4 c.next] 108 (0,0))],sW,(s0++(s2++c.M))]) Wp ?hx_6 ?hy_6
 case hx_6=>
  refine A0<|Zl KB Y ?_;refine Zp Y V<|Zh 1 Ek V rfl Lo Y<|Zl T6 Y ?_;refine Zv (AY Fo Y)<|Zv (DF (n:=64) Y Y)<|A5<|Aq Y (fun h6=>?_) (fun h6=>?_);·
   have kv:EZ (J++(s2++c.M)) (.slice U (c.win.length+1) K) (c.win++[(⟨p,q2,cap2,cs⟩:BN)]):=by
    rw [B]at X;rw [<-B];refine K6 (by rw [B];exact X) A1 fun r hr=>?_;rcases B9.1 hr with hr|hr
    · obtain ⟨i,hi⟩:=GW hr
      exact H5 (h.wp i r hi).2.1 s2
    · rw [BT.1 hr];exact Jl gm c.M
   have l5:EZ (J++(s2++c.M)) (.slice (EY U 1 K 2) c.win.length (K -1)) ((c.win++[(⟨p,q2,cap2,cs⟩:BN)]).drop 1):=by
    rw [<-B]at kv;have h9:=Nh (a:=1) kv A1
    rwa [B,RR]at h9
   refine CK (s1:=J) (s2:=(s2++c.M)) Wo Wo ?_;refine Az (n:=10) (0::0::2::6::14::30::62::127::255::511::[]) 576 A6 A6 V<|B2 0 V KB Y ?_;refine B2 1 V KB Y ?_;refine A2 2 V (Ap Y V)<|A2 3 V (AB (off:=1) Ek V rfl Lo Y)<|B2 4 V T6 Y ?_;refine A2 5 rfl (C9 (l:=1) Fo F0 Y Y A1)<|Zz (l:=[6])<|B1 [false,false,true] [(0,(_,_))] rfl rfl (Zw [_] Y call41 Y rfl (IJ l5 (by rw [C2];omega))) ?_ Bv Ai;rintro _ _ ⟨_,⟨sR,j5,rfl⟩,rfl⟩;refine ⟨Zk (Aa),?_⟩;obtain ⟨gR,cR,rfl⟩:=j5.form;refine A2 7 V (Ap Y V)<|A2 8 V (AB (off:=1) Ek V rfl Lo Y)<|Zz (l:=[9])<|B1 [false] [] V rfl (Zs Lo Y Y V (hi:=by(simp;done))) ?_ (fun _ _ h=>h.elim) Ai;rintro _ _ ⟨rfl,rfl⟩;refine B6<|Ag<|Zn [2,3] ?_;refine BO (e':=[]) (by exact ⟨(c.win++[(⟨p,q2,cap2,cs⟩:BN)]).drop 1,gR,cR,sR,J,⟨.inr ⟨V,by omega⟩,j5⟩,V,V⟩)
  refine AC<|Zn [2,3] ?_;refine BO (e':=[]) (by exact ⟨c.win++[(⟨p,q2,cap2,cs⟩:BN)],U,K,J,[],⟨.inl ⟨rfl,by omega⟩,by rw [B]at X⊢;exact X⟩,rfl,by rw [B]⟩)
 rintro _ _ ⟨W,wq,wc,sW,s0,⟨gq,qz⟩,rfl,rfl⟩;refine A0<|Ze (Al Up #[_])<|AE fun bt=>A5<|A0<|Zv (Bg (vs:=[]) (us:=[_,_,_]) Y Y)<|A3 Y<|Zq<|Zq<|Az (n:=8) (0::1::3::7::0::31::63::0::[]) 32 A6 A6 V<|B2 0 V KB Y ?_;refine A2 1 V (Ap Y V)<|A2 2 V (AB (off:=3) Ek V rfl sizeOf104 Y)<|B2 3 V isAgg104 Y ?_;refine E7 4 V Wh (A9 (cs:=#[_,_]) HX F0 Y As (BK V)) ?_;refine A2 7 V (AP Y)<|Zz (l:=[5])<|B1 [false,false,false] [] V rfl (Zw [_,_] Y call45 Y V (fB h.its.idx qy qx h.its.ist p (MC:=ME) hC A1 gB)) ?_ Bv Ai;rintro _ _ ⟨_,⟨zi,sz,lv2,ML2,l9,vo,zu,cO,l8,rfl⟩,rfl⟩;refine ⟨Aa,?_⟩;obtain ⟨pk,ck,rfl⟩:=cO.form;simp only [B4];rw [B4]at cO;refine A2 6 V (AY Cl Y)<|Ag<|Zx<|AR<|BU<|Zb [68,2,3,6,7,66,67] ?_;refine BA (e0:=[(68,_)]) (fun m e H=>∃(k:Nat) (d:CZ) (tl:List ByteArray) (tv:Value) (st:List AA),m=zi.length -k/\(k<=zi.length/\H9 c d cs p W (s0++(s2++c.M)) (zi.take k) tl/\Row 9 tv (tl.map Value.string) st)/\e=[(68,I4 (k:Int))]/\H=[[(c.cp,.cells d.A62 108 (0,0))],d.sW,d.z.S,[(d.mb,.map d.esP d.ckP)],d.su,[(d.ip,.cells #[.map (some d.mq),d.lv] 163 (0,0))],[(d.mq,.map d.esQ d.ckQ)],d.ML,[(d.mi,.map d.esI d.ckI)],[(d.mkb,.map d.esK d.ckK)],d.SI,d.M,d.MR,[(bt,.cells #[tv] 45 (0,0))],st]) (by exact ⟨0,({c with pos:=p,wq:=wq,wc:=wc,win:=W,sW:=sW,lv:=lv2,ML:=ML2,M:=s0++(s2++c.M)}:CZ),[],.slice none 0 0,[],rfl,⟨C0 _,by rw [ID];exact vD h.tookb gq qz hp hR (fun q hq=>G2 _ (G2 _ hq)) (H5 (Jl gm c.M) s0) l8,Fz _⟩,rfl,rfl⟩) Wp ?_;rintro _ _ _ ⟨k,d,tl,tv,st,rfl,⟨hk,g,hT⟩,rfl,rfl⟩;refine A0<|Zv (Au Y Y)<|A5<|Zq<|Aq Y (fun bg=>?_) (fun bg=>?_);·
  obtain ⟨i9,O⟩:∃i,zi[k]?=some i:=⟨_,B3 A1⟩;obtain ⟨y9,ve,cu,wz⟩:=(l9 i9).1 (DE O);obtain ⟨x,hx,rfl⟩:=Bm.1 ve;replace cu:x.id=i9:=cu;subst cu;have j3:x.id∉zi.take k:=Rn vo O
  have bn:=g.next_it h.tookb hx j3;have ic:=g.okb.its.get bn
  have qo:EI x.id d.lmK=some (.string x.key):=Cy g.okb.its.km.keys ((g.okb.its.kmem _).2 ⟨x,bn,rfl⟩);have ax:(x.b,Obj.cells x.A61 114 (0,0))∈d.SI:=g.okb.its.sub x bn
  have sF:tl.length<=500:=MY (Ox g.t2 fun a ha=>by
   obtain ⟨w,hw,rfl,_⟩:=(g.t1 a).1 ha;exact DP hw) (by rw [B4];exact h.its.len)
  rcases cO with⟨_,h0,_⟩|⟨gk,capk,curk,zk,hvk,rfl,hlek,hcmk,hcsk,htkk,hfrk⟩
  · simp at h0;subst h0;simp at bg
  injection hvk with hv1 hv2 hv3
  subst hv1 hv3;have p8:curk[k]?=some (I4 x.id):=by
   have h:=congrArg (fun l=>l[k]?) htkk;simp only [HC,B4,AM bg,DO,O]at h;simpa using h
  refine AC<|Zx<|Zq<|AR<|A0<|Bb (BV Cl A4 Y Y (by first|omega|decide|(simp;done)|(simp;omega)))<|Zl AD Y (hv:=by exact p8) ?_;refine A3 Y<|A0<|Zl KB Y ?_;refine Zp Y V<|Zh 5 Ek V rfl sizeOf79 Y<|Zl isAgg79 Y ?_;refine Zm Y<|Zo Wh (De (Cc C5 (D:=fun _=>True)) dc HT g.okb.its.km (fun _ _=>trivial) (trivial) (by rw [qo];first|done|rfl) Y Y) ?_;refine A3 Y<|Zq<|Az (n:=13) (0::1::3::7::0::31::63::127::255::511::0::1024::4095::[]) 0 A6 A6 V<|B2 0 V KB Y ?_;refine A2 1 V (Ap Y V)<|A2 2 V (AB (off:=4) Ek V rfl OR Y)<|B2 3 V N5 Y ?_;refine A2 4 rfl (AP Y)<|E7 5 rfl Wh (De (Dk GP (D:=fun _=>True)) Nd Ss g.okb.its.im (fun _ _=>trivial) (trivial) (by rw [ic];first|done|rfl) Y Y) ?_;refine A2 6 V (Ap Y V)<|A2 7 V (AB (off:=0) HO V rfl HA Y)<|A2 8 V (Ar (off:=8) Ft V rfl A4 Y)<|CQ (D':=1023) 9 V rfl V (Ee Wo (ax)) (BP AD Y AN) ?_;refine A2 10 V (AB (off:=0) G3 V rfl A4 Y)<|B2 11 V AD Y ?_;refine A2 12 V (Dv Y Y)<|Ag<|Zn [2,3,6,7,10,66,67,68,90] ?_;refine Zx<|Aq Y (fun af=>?_) (fun af=>?_);·
   refine Zg<|Zm Y<|Zm Y<|Zl KB Y ?_;refine Zp Y V<|Zh 4 Ek V rfl OR Y<|Zl N5 Y ?_;refine Zm Y<|Zo Wh (De (Dk GP (D:=fun _=>True)) Nd Ss g.okb.its.im (fun _ _=>trivial) (trivial) (by rw [ic];first|done|rfl) Y Y) ?_;refine Zc [_,_] Y call42 Y V (iE g h hC A1 hx af j3 hT A1 bt br bc) ?_;rintro _ _ ⟨_,⟨rfl,d2,vz,vw,ek,o9,rfl⟩,rfl⟩;refine Z0<|A8<|Zx<|Zg<|Ya (n:=1) Y Y<|Zm Y<|Z0<|Zn [68,2,3,6,7,66,67] ?_;refine Ab (e':=[(68,_)]) (by exact ⟨k+1,d2,tl++[x.key],vz,vw,rfl,⟨by omega,by rw [Bi O];exact ek,o9⟩,rfl,rfl⟩)
  refine AC<|A8<|Zx<|Zg<|Ya (n:=1) Y Y<|Zm Y<|Z0<|Zn [68,2,3,6,7,66,67] ?_;refine Ab (e':=[(68,_)]) (by exact ⟨k+1,d,tl,tv,st,rfl,⟨by omega,by rw [Bi O];exact vB g h.tookb hx af,hT⟩,rfl,rfl⟩)
 obtain rfl:k=zi.length:=by omega
 rw [GB]at g;have sF:tl.length<=500:=MY (Ox g.t2 fun a ha=>by
  obtain ⟨w,hw,rfl,_⟩:=(g.t1 a).1 ha;exact DP hw) (by rw [B4];exact h.its.len)
 refine Ay<|Zt<|Zt<|AU<|Zx<|Zq<|Zq ?_;rw [<-g.cp];refine Zg<|Zl KB Y ?_;refine Zc [_] Y call46 Y V (cB d) ?_;rintro _ _ ⟨_,⟨bs,rfl,rfl⟩,rfl⟩;refine A5<|AR<|Zb [2,6,102] ?_;refine J6 (H0:=_) (R:=_) (I:=(fun(pre:List ByteArray) H=>∃d2:CZ,JP d d2 pre/\H=[[(d.cp,.cells d2.A62 108 (0,0))],d2.sW,d2.z.S,[(d2.mb,.map d2.esP d2.ckP)],d2.su,[(d2.ip,.cells #[.map (some d2.mq),d2.lv] 163 (0,0))],[(d2.mq,.map d2.esQ d2.ckQ)],d2.ML,[(d2.mi,.map d2.esI d2.ckI)],[(d2.mkb,.map d2.esK d2.ckK)],d2.SI,d2.M,d2.MR,[(bc,.cells #[.pointer (some ⟨d.cp,0,none⟩)] 37 (0,0))]])) (E:=fun x e Hn=>e=[(11,.string x),(103,.string x)]/\Hn=[]) rfl Y call98 (cZ g.okb bs) (fun pre H1 c9 d9 h9=>by obtain ⟨d2,G,rfl⟩:=h9;exact ⟨d2,G.okb,G.like.cp,G.mi,G.like.pos,G.its,by rw [G.like.cp];simp,by simp,fun q hq=>by simp [hq]⟩) Y rfl Wp (⟨d,Rq g.okb,rfl⟩) ?ha_16 ?hbd_16 ?hk_16
 case ha_16=>
  intro _ x _ _;refine Zg<|AG Y<|Lv (e:=[(11,_),(103,_)]) (Hn:=[]) ?_;exact ⟨V,V⟩
 case hbd_16=>
  intro l pre x u e9 y5 H1 R1 r9 sO hI lw;obtain ⟨rfl,rfl⟩:=lw;obtain ⟨d2,G,rfl⟩:=hI;obtain ⟨x2,sJ,rfl⟩:=cK G g.okb sO;rw [<-G.like.cp];refine AR<|Zg<|Zl KB Y ?_;refine Zm Y<|Zc [_,_] Y call44 Y V (Xb G.okb sJ) ?_;rintro _ _ ⟨_,⟨rfl,d3,pg,gF,pq,pz,_,q9,qb,qj,rfl⟩,rfl⟩;rw [gF.cp];refine Z0<|A8<|F7 V (by exact ⟨d3,Rp G pg gF pq pz q9 qb qj,V⟩)
 intro D1 ys H2 ql o8;obtain ⟨d2,G,rfl⟩:=o8;rw [<-G.like.cp];refine Zn [6] ?_;refine A8<|Zx<|A0<|Zl Hc Y ?_;refine Zc [_] Y call47 Y V (Ru hT A1) ?_;rintro _ _ ⟨_,⟨zs,s3,rfl,qw,sw,sj,rfl⟩,rfl⟩;refine A5<|A0<|Zl Hc Y ?_;refine Za Y<|A3 Y<|AJ<|GN V (qC results12 Y Y) Wo (by exact ⟨d2,q2,cap2,zs,tv,s3,s0++s2,V,vC h hR hp gq g (fun q hq=>G2 _ (G2 _ hq)) l9 G ql qw sw,G.M.1.trans (g.M.trans (Cd _ _ _).symm),sj,V⟩)
theorem tH:GY [] 0 #[] 0 [] (.pointer none) [] #[] 0 [] #[] 0 [] []:=⟨mU,.inl ⟨rfl,rfl⟩,EU _,fun p=>by simp,EU _,fun p=>by simp,lr,fun x hx=>by simp at hx,by decide,by decide,fun x hx=>by simp at hx,fun x hx=>by simp at hx⟩
variable{d:CZ}
theorem uU(h:d.okb)(hi:d.its=[])(pos:Int)(m:0<=pos/\pos<=10000):({d with pos:=pos,wq:=none,wc:=0,win:=[],sW:=[]}:CZ).ok:=
 ⟨⟨m,Bf 2 _,C0 _,fun i r B=>by simp at B,h.pool,h.pk,h.its,h.tns⟩,fun x hx=>by have g:x∈d.its:=hx;rw [hi]at g;simp at g⟩
theorem CZ.okb.noPL(h:c.okb)(hi:c.its=[]):c.PL=[]:=by
 cases hP:c.PL with
 |nil=>rfl
 |cons e l=>
  have g:=(h.pk e.key).1 (by rw [hP];simp);rw [hi]at g;simp at g
variable{v:Value}
theorem nU{sh:List Int}{J:List AA}(O:Row 3 v (sh.map (Value.int .i64)) J)(pos cap:Int)(K:0<=pos/\pos<=10000)(hc:1<=cap/\cap<=1000000)(U:1<=sh.length/\sh.length<=8)(h0:∀x∈sh,0<=x)(I:sh.sum<=cap):Ba prog 9 #[I4 pos,I4 cap,v] [J] (fun r H'=>∃c:CZ,r= .tuple #[.pointer (some ⟨c.cp,0,none⟩),I4 0]/\c.ok/\(c.its=[]/\c.PL=[]/\c.win=[])/\c.pos=pos/\c.next=0/\c.ns=sh.length/\c.z.cap=cap/\H'=[[(c.cp,.cells c.A62 108 (0,0))],c.sW,c.z.S,[(c.mb,.map c.esP c.ckP)],c.su,[(c.ip,.cells #[.map (some c.mq),c.lv] 163 (0,0))],[(c.mq,.map c.esQ c.ckQ)],c.ML,[(c.mi,.map c.esI c.ckI)],[(c.mkb,.map c.esK c.ckK)],c.SI,c.M,c.MR,J]):=by
 refine Se func9 ntmps9 [0,1,2] ?_;intro u R;refine A0<|Za Y<|A3 Y<|Zq<|A0<|Zm Y<|Xr [_] Y call29 Y V (JK pos) ?_;rw [Cp K];refine Zv (Br Y)<|A5<|AX Y (fun m=>by cases m)<|fun m=>AC<|Zx<|A0<|Zm Y<|Zm Y<|Zc [_,_] Y call30 Y V (lS O cap hc U h0 I) ?_;rintro _ _ ⟨_,⟨z,mb,su,rfl,G,g,rfl⟩,rfl⟩;refine Zm Y<|Zd Y V<|Zd Y V<|Za Y<|AG Y<|Zn [0,8,9] ?_;refine Zx<|Zq<|A0<|Zm Y<|Zv (Dp (n:=0) Y Y)<|A5<|Aq Y (fun B=>?_) (fun B=>?_);·
  exfalso;exact B rfl
 refine AC<|Zx<|Zq<|BU<|BU<|BU<|BU<|BU<|Zg<|Zm Y<|Zm Y<|Zc [] Y call31 Y V (jd) ?_;rintro _ _ ⟨_,⟨ip,mq,rfl,rfl⟩,rfl⟩;refine Ze (DT)<|AE fun mi=>Ze (DT)<|AE fun mkb=>Zv (BM (vs:=[(0,_),(2,_),(3,_),(4,_),(5,_)]) (cs:=#[_,_,_,_,_,_,_]) Y (AZ (pl:=#[(0,1),(1,1),(2,1),(3,1),(4,1),(5,1),(6,1)]) zeroValue108 Ek (fun _=>by kernel_rfl) V))<|Ze (Bx #[_,_,_,_,_,_,_])<|AE fun cp=>Za Y<|A3 Y<|AJ<|Cv V results9 Y Y (by refine ⟨({cp:=cp,pos:=pos,wq:=none,wc:=0,win:=[],sW:=[],z:=z,ns:=sh.length,PL:=[],mb:=mb,esP:=#[],ckP:=0,lmP:=[],su:=su,ip:=ip,mq:=mq,mi:=mi,mkb:=mkb,next:=0,its:=[],esQ:=#[],ckQ:=0,lmQ:=[],lv:= .pointer none,ML:=[],esI:=#[],ckI:=0,lmI:=[],esK:=#[],ckK:=0,lmK:=[],SI:=[],M:=[],MR:=[]}:CZ),V,⟨⟨K,Bf 2 _,by simp,fun i r W=>by simp at W,g,fun k=>by simp,tH,fun x hx=>by simp at hx⟩,fun x hx=>by simp at hx⟩,⟨V,V,V⟩,V,V,V,G,V⟩)
theorem uX(pos:Int)(cap:Int)(v:Value)(m:¬(0<=pos/\pos<=10000)):BH prog 9 #[I4 pos,I4 cap,v] [] (.tuple #[.pointer none,I4 180]):=by
 refine Se func9 ntmps9 [0,1,2] ?_;intro u R;refine A0<|Za Y<|A3 Y<|Zq<|A0<|Zm Y<|Xr [_] Y call29 Y V (JK pos) ?_;rw [CN m];refine Zv (Br Y)<|A5<|AX Y (fun g=>?_) (fun g=>?_);·
  refine A0<|Za Y<|A3 Y<|AJ<|Zt<|Cv V results9 Y Y (by exact ⟨V,V⟩)
 cases g
theorem dL(h:c.ok)(pos:Int)(hp:0<=pos/\pos<=10000):Ba prog 15 #[.pointer (some ⟨c.cp,0,none⟩),I4 pos] [[(c.cp,.cells c.A62 108 (0,0))],c.sW,c.z.S,[(c.mb,.map c.esP c.ckP)],c.su,[(c.ip,.cells #[.map (some c.mq),c.lv] 163 (0,0))],[(c.mq,.map c.esQ c.ckQ)],c.ML,[(c.mi,.map c.esI c.ckI)],[(c.mkb,.map c.esK c.ckK)],c.SI,c.M,c.MR] (fun v H'=>v=undef/\∃d:CZ,d.ok/\d.cp=c.cp/\(d.its=[]/\d.PL=[]/\d.win=[])/\d.pos=pos/\d.next=c.next/\d.ns=c.ns/\d.z.cap=c.z.cap/\H'=[[(d.cp,.cells d.A62 108 (0,0))],d.sW,d.z.S,[(d.mb,.map d.esP d.ckP)],d.su,[(d.ip,.cells #[.map (some d.mq),d.lv] 163 (0,0))],[(d.mq,.map d.esQ d.ckQ)],d.ML,[(d.mi,.map d.esI d.ckI)],[(d.mkb,.map d.esK d.ckK)],d.SI,d.M,d.MR]):=by
 refine Se func15 ntmps15 [0,1] ?_;intro u R;refine Zq<|A0<|Zm Y<|Zv (Be O2 Y Y)<|Zm Y<|Af (t:=8) Y V (fun g1=>by cases g1)<|fun g1=>Zf Y Y<|Xr [_] Y call29 Y V (JK pos) ?_;rw [Cp hp];refine Yg (Br Y)<|Zv (AL Y Y)<|A5<|AX Y (fun K=>by cases K)<|fun K=>AC<|Zx<|Zq<|A0<|Zm Y<|Zc [_] Y call16 Y V (O6 h.tookb) ?_;rintro _ _ ⟨_,⟨zs,sk,B,gm,J,rfl⟩,rfl⟩;have d9:zs.Nodup:=B.nodup_iff.2 h.its.keys
 have cO:=B.length_eq;rw [B4]at cO;have ek:=h.its.len
 obtain ⟨pk,ck,rfl⟩:=J.form;simp only [B4];rw [B4]at J;refine Zv (AY D2 Y)<|Zm Y<|A5<|AR<|Zb [16,0,1,14,15] ?_;refine BA (e0:=[(16,_)]) (fun m e H=>∃(i:Nat) (d:CZ),m=zs.length -i/\(i<=zs.length/\JP c d (zs.take i))/\e=[(16,I4 (i:Int))]/\H=[[(c.cp,.cells d.A62 108 (0,0))],d.sW,d.z.S,[(d.mb,.map d.esP d.ckP)],d.su,[(d.ip,.cells #[.map (some d.mq),d.lv] 163 (0,0))],[(d.mq,.map d.esQ d.ckQ)],d.ML,[(d.mi,.map d.esI d.ckI)],[(d.mkb,.map d.esK d.ckK)],d.SI,d.M,d.MR]) (by exact ⟨0,c,rfl,⟨C0 _,by rw [ID];exact Rq h.tookb⟩,rfl,rfl⟩) Wp ?_;rintro _ _ _ ⟨i,d,rfl,⟨hi,g⟩,rfl,rfl⟩;refine A0<|Zv (Au Y Y)<|A5<|Zq<|Aq Y (fun I=>?_) (fun I=>?_);·
  obtain ⟨k,U⟩:∃k,zs[i]?=some k:=⟨_,B3 A1⟩;obtain ⟨x,hx,rfl⟩:=Bm.1 (B.mem_iff.1 (DE U));have cu:x∈d.its:=(g.its x).2 ⟨hx,Rn d9 U⟩
  rcases J with⟨_,h0,_⟩|⟨gk,capk,curk,zk,hvk,rfl,hlek,hcmk,hcsk,htkk,hfrk⟩
  · simp at h0;subst h0;simp at I
  injection hvk with hv1 hv2 hv3
  subst hv1 hv3;have W:curk[i]?=some (.string x.key):=by
   have h:=congrArg (fun l=>l[i]?) htkk;simp only [HC,B4,AM I,DO,U]at h;simpa using h
  refine AC<|Zx<|Zq<|AR<|A0<|Bb (BV D2 Fi Y Y X2)<|Zl HQ Y (hv:=by exact W)<|AG Y<|Zx ?_;rw [<-g.like.cp];refine Zg<|Zm Y<|Zm Y<|Zc [_,_] Y call44 Y V (Xb g.okb cu) ?_;rintro _ _ ⟨_,⟨rfl,d3,X,O,Z,af,_,ax,bg,bn,rfl⟩,rfl⟩;rw [O.cp,g.like.cp];refine Z0<|A8<|Zx<|Zg<|Ya (n:=1) Y Y<|Zm Y<|Z0<|Zn [16,0,1,14,15] ?_;refine Ab (e':=[(16,_)]) (by exact ⟨i+1,d3,rfl,⟨by omega,by rw [Bi U];exact Rp g X O Z af ax bg bn⟩,rfl,rfl⟩)
 obtain rfl:i=zs.length:=by omega
 rw [GB]at g;have G:d.its=[]:=ka.2 fun y hy=>by
  obtain ⟨h1,h2⟩:=(g.its y).1 hy;exact h2 (B.mem_iff.2 (DP h1))
 refine Ay<|Zt<|Zt<|AU<|Zx ?_;rw [<-g.like.cp];refine BU<|Zg<|Zm Y<|Zm Y<|Zm Y<|Zp Y V<|Zh 0 Ek V rfl A4 Y<|Xe (Zs A4 Y Y V (hi:=by(simp;done)))<|Zp Y V<|Zh 1 Ek V rfl Lo Y<|Xe (Zs Lo Y Y V (hi:=by(simp;done)))<|Z0<|Cw V results15 (by exact ⟨V,({d with pos:=pos,wq:=none,wc:=0,win:=[],sW:=[]}:CZ),uU g.okb G pos hp,V,⟨G,g.okb.noPL G,V⟩,V,g.next,g.like.ns,g.like.cap,V⟩)
theorem au(h:c.okb)(G:Ck ME (.slice qa cs.length cap) cs)(K:EJ p cs)(hp:p≠c.pos+1):BH prog 12 #[.pointer (some ⟨c.cp,0,none⟩),.agg #[I4 p,.slice qa cs.length cap]] [[(c.cp,.cells c.A62 108 (0,0))],ME] (.tuple #[.slice none 0 0,I4 180]):=by
 have U:=mL;obtain ⟨p9,B,I,W,O⟩:=id G;injection I with e91 e92 e93
 subst e91 e93;refine DL func12 V ntmps12 V ?_;intro u R;refine Zb [0,1] ?_;refine A0<|Ze (Bx #[_])<|AE fun X=>Ze (Bx #[I4 p,.slice qa cs.length cap])<|AE fun Z=>Za Y<|A3 Y<|Zq<|AR<|A0<|Zl KB Y<|Zv (Be O2 Y Y)<|A3 Y<|AX Y (fun g=>by cases g)<|fun g=>Zq<|Az (n:=14) (0::1::3::7::15::31::15::79::207::463::975::2047::4095::8191::[]) 2 A6 A6 V<|E7 0 V Wh (A9 (cs:=#[_,_]) HX F0 Y As (BK V))<|Yw 1 3 V (Zu [_] Y call39 Y V (Pp p qa cap cs ME G)) ?_;rintro _ _ ⟨rfl,rfl⟩;rw [Cp K];refine A2 2 V (Br Y)<|A2 3 V (AP Y)<|CU (t:=19) Y (fun m=>?_) (fun m=>?_);·
  rw [m];cases m
 rw [m];refine An 4 V (AB (off:=0) G3 V rfl A4 Y)<|DH 5 V Wh (BP AD Y AN)<|DH 6 V Wh (BP KB Y AN)<|An 7 V (Ap Y V)<|An 8 V (AB (off:=0) Ek V rfl A4 Y)<|DH 9 V Wh (BP AD Y AN)<|An 10 V (He Y Y (IntWalk.i64_in _ (by have:=h.pos;omega)))<|An 11 V (GG Y Y)<|A2 12 V (AL Y Y)<|A2 13 V (Av Y)<|Ag<|Zn [2,3,15] ?_;refine Zx<|Aq Y (fun J=>?_) (fun J=>?_);·
  refine A0<|Za Y<|A3 Y<|AJ<|Ad<|Zt<|Ow V (qC results12 Y Y) (by exact ⟨V,V⟩)
 exfalso;omega
theorem Ec{P:Program}{f:FuncId}{args:Array Value}{H H1:Hp}{Q m:Value->Hp->Prop}(h:Ba P f args H Q)(R:List AA)(K:H1.flatten.Perm (H.flatten++R))(O:∀v H',Q v H'->∃g,m v g/\g.flatten.Perm (H'.flatten++R)):Ba P f args H1 m:=fun u B w U=>by
 have G:Sat u (H++([R]++B)) w:=U.perm (by
  simp only [Ge,CA,FG,DB];rw [<-Cd];exact K.append_right _)
 refine (h u ([R]++B) w G).mono ?_;rintro e W (⟨v,H',rfl,h2,h3⟩|⟨_,_,_,h,_⟩)
 · obtain ⟨g,I,J⟩:=O v H' h2
   refine .inl ⟨v,g,V,I,h3.perm ?_⟩;simp only [Ge,CA,FG,DB];rw [<-Cd];exact J.symm.append_right _
 · exact h.elim
theorem JM{P:Program}{f:FuncId}{args:Array Value}{H H1:Hp}{r:Value}(h:BH P f args H r)(R:List AA)(g:H1.flatten.Perm (H.flatten++R)):BH P f args H1 r:=Ec h R g (by
 rintro v H' ⟨rfl,rfl⟩;exact ⟨_,⟨V,V⟩,g⟩)
def CZ.mem(c:CZ):List AA:=([(c.cp,.cells c.A62 108 (0,0))]:List AA)++((c.sW:List AA)++((c.z.S:List AA)++(([(c.mb,.map c.esP c.ckP)]:List AA)++((c.su:List AA)++(([(c.ip,.cells #[.map (some c.mq),c.lv] 163 (0,0))]:List AA)++(([(c.mq,.map c.esQ c.ckQ)]:List AA)++((c.ML:List AA)++(([(c.mi,.map c.esI c.ckI)]:List AA)++(([(c.mkb,.map c.esK c.ckK)]:List AA)++((c.SI:List AA)++((c.M:List AA)++((c.MR:List AA)))))))))))))
theorem X0(h:c.okb){B:Int}(J:∀e∈c.PL,e.sz<=B):c.z.cap -(c.its.length:Int)*B<=c.z.fr:=by
 have I:∀L:List Bt,(∀e∈L,e.sz<=B)->LK L<=(L.length:Int)*B:=fun L=>by
  induction L with
  |nil=>intro _;simp [LK]
  |cons e l ih=>
   intro G;have h2:=ih fun x hx=>G x (EV _ hx)
   have g:=G e (E4 ..);have m:LK (e::l)=e.sz+LK l:=by unfold LK;rw [DQ,iv]
   rw [m,DG];push_cast;rw [Int.add_mul];omega
 have h2:(c.PL.map (·.key)).Perm (c.its.map ItM.key):=(RE h.pool.keys h.its.keys).2 h.pk;have g:=h2.length_eq
 rw [B4,B4]at g;have m:=I c.PL J
 rw [g]at m;have K:=h.pool.free
 omega
def q7(c d:CZ)(q:QM)(tn base:Int)(L:List RP)(R:CE×Int×Bool)(b:Bool):Prop:=
 (b=false/\d=c/\¬((c.pos -base).toNat<=c.win.length/\R.2.2=true))\/
 (b=true/\((c.pos -base).toNat<=c.win.length/\R.2.2=true)/\(∀e∈d.PL,e∈c.PL\/e.sz=1+(R.1.rows.length:Int))/\
   ((d=c/\∃x∈c.its,x.key=str (Ci q)/\base<=x.base)\/
    ((∀x∈c.its,x.key=str (Ci q)->x.base<base)/\∃y:ItM,d.its=(c.its.filter fun x=>x.key≠str (Ci q))++[y]/\y.q=q/\y.base=base/\y.L=L/\y.res=R.1/\y.since=R.2.1/\((y.tn=tn/\∀x∈c.its,x.key≠str (Ci q))\/∃x∈c.its,x.key=str (Ci q)/\y.tn=x.tn))))
theorem vq(c:CZ):BH prog 17 #[.pointer (some ⟨c.cp,0,none⟩)] [c.mem] (I4 c.pos):=JM (nR c) ((c.sW:List AA)++(c.z.S:List AA)++([(c.mb,.map c.esP c.ckP)]:List AA)++(c.su:List AA)++([(c.ip,.cells #[.map (some c.mq),c.lv] 163 (0,0))]:List AA)++([(c.mq,.map c.esQ c.ckQ)]:List AA)++(c.ML:List AA)++([(c.mi,.map c.esI c.ckI)]:List AA)++([(c.mkb,.map c.esK c.ckK)]:List AA)++(c.SI:List AA)++(c.M:List AA)++(c.MR:List AA)++[]) (CL fun f g=>by simp only [CA,FG,DB,CZ.mem,CZ.A62,g]<;>omega)
variable{k:Nat}
theorem tj(h:c.okb)(m:k<c.ns):BH prog 18 #[.pointer (some ⟨c.cp,0,none⟩),I4 (k:Int)] [c.mem] (I4 (FX c.PL (k:Int))):=JM (gM h m) ((c.sW:List AA)++([(c.ip,.cells #[.map (some c.mq),c.lv] 163 (0,0))]:List AA)++([(c.mq,.map c.esQ c.ckQ)]:List AA)++(c.ML:List AA)++([(c.mi,.map c.esI c.ckI)]:List AA)++([(c.mkb,.map c.esK c.ckK)]:List AA)++(c.SI:List AA)++(c.M:List AA)++(c.MR:List AA)++[]) (CL fun f g=>by simp only [CA,FG,DB,CZ.mem,CZ.A62,g]<;>omega)
theorem xM(h:c.ok){K:ByteArray}(g:∀y∈c.its,y.key≠K):BH prog 13 #[.pointer (some ⟨c.cp,0,none⟩),.string K] [c.mem] (.tuple #[.agg #[I4 0,I4 0,I4 0,I4 0,I4 0,I4 0,I4 0,.slice none 0 0,I4 0,.bool false,I4 0,I4 0,I4 0,.slice none 0 0,.slice none 0 0],.bool false]):=JM (rI h g) ((c.sW:List AA)++(c.z.S:List AA)++([(c.mb,.map c.esP c.ckP)]:List AA)++(c.su:List AA)++([(c.ip,.cells #[.map (some c.mq),c.lv] 163 (0,0))]:List AA)++([(c.mq,.map c.esQ c.ckQ)]:List AA)++(c.ML:List AA)++([(c.mkb,.map c.esK c.ckK)]:List AA)++(c.SI:List AA)++(c.M:List AA)++(c.MR:List AA)++[]) (CL fun f m=>by simp only [CA,FG,DB,CZ.mem,CZ.A62,m]<;>omega)
variable{x:ItM}
theorem mF(h:c.ok)(hx:x∈c.its)(g:c.pos<x.base):BH prog 13 #[.pointer (some ⟨c.cp,0,none⟩),.string x.key] [c.mem] (.tuple #[.agg #[I4 0,I4 0,I4 0,I4 0,I4 0,I4 0,I4 0,.slice none 0 0,I4 0,.bool false,I4 0,I4 0,I4 0,.slice none 0 0,.slice none 0 0],.bool false]):=JM (u6 h hx g) ((c.sW:List AA)++(c.z.S:List AA)++([(c.mb,.map c.esP c.ckP)]:List AA)++(c.su:List AA)++([(c.ip,.cells #[.map (some c.mq),c.lv] 163 (0,0))]:List AA)++([(c.mq,.map c.esQ c.ckQ)]:List AA)++(c.ML:List AA)++([(c.mkb,.map c.esK c.ckK)]:List AA)++(c.MR:List AA)++[]) (CL fun f m=>by simp only [CA,FG,DB,CZ.mem,CZ.A62,m]<;>omega)
theorem RQ(h:c.ok)(hx:x∈c.its)(I:x.base<=c.pos):Ba prog 13 #[.pointer (some ⟨c.cp,0,none⟩),.string x.key] [c.mem] (fun r H'=>∃(z:Jv) (l:List BN) (s:List AA),z.a=⟨x.q,x.res,x.since,c.pos,x.base,x.L,l⟩/\l.map BN.pc=(DD c.pos x.base c.win).map BN.pc/\z.ok s/\r= .tuple #[.agg z.A60,.bool true]/\H'=[c.mem,s]):=Ec (rK h hx I) ((c.z.S:List AA)++([(c.mb,.map c.esP c.ckP)]:List AA)++(c.su:List AA)++([(c.ip,.cells #[.map (some c.mq),c.lv] 163 (0,0))]:List AA)++([(c.mq,.map c.esQ c.ckQ)]:List AA)++(c.ML:List AA)++([(c.mkb,.map c.esK c.ckK)]:List AA)++(c.MR:List AA)++[]) (CL fun f g=>by simp only [CA,FG,DB,CZ.mem,CZ.A62,g]<;>omega) (by
 rintro r H' ⟨z,l,s,m,h2,B,G,rfl⟩;exact ⟨_,⟨z,l,s,m,h2,B,G,V⟩,CL fun f g=>by simp only [CA,FG,DB,CZ.mem,CZ.A62,g]<;>omega⟩)
theorem tk(h:c.okb):Ba prog 16 #[.pointer (some ⟨c.cp,0,none⟩)] [c.mem] (fun r H'=>∃(zs:List ByteArray) (s:List AA),zs.Perm (c.its.map ItM.key)/\(zs.Pairwise fun x y=>x.data.toList<=y.data.toList)/\Row 9 r (zs.map Value.string) s/\H'=[c.mem,s]):=Ec (O6 h) ((c.sW:List AA)++(c.z.S:List AA)++([(c.mb,.map c.esP c.ckP)]:List AA)++(c.su:List AA)++([(c.ip,.cells #[.map (some c.mq),c.lv] 163 (0,0))]:List AA)++([(c.mq,.map c.esQ c.ckQ)]:List AA)++(c.ML:List AA)++([(c.mkb,.map c.esK c.ckK)]:List AA)++(c.SI:List AA)++(c.M:List AA)++(c.MR:List AA)++[]) (CL fun f g=>by simp only [CA,FG,DB,CZ.mem,CZ.A62,g]<;>omega) (by
 rintro r H' ⟨zs,s,m,h2,B,rfl⟩;exact ⟨_,⟨zs,s,m,h2,B,V⟩,CL fun f g=>by simp only [CA,FG,DB,CZ.mem,CZ.A62,g]<;>omega⟩)
theorem ze(h:c.ok)(pos:Int)(U:0<=pos/\pos<=10000):Ba prog 15 #[.pointer (some ⟨c.cp,0,none⟩),I4 pos] [c.mem] (fun r H'=>r=undef/\∃d:CZ,d.ok/\d.cp=c.cp/\(d.its=[]/\d.PL=[]/\d.win=[])/\d.pos=pos/\d.next=c.next/\d.ns=c.ns/\d.z.cap=c.z.cap/\H'=[d.mem]):=Ec (dL h pos U) [] (CL fun f g=>by simp only [CA,FG,DB,CZ.mem,CZ.A62,g]<;>omega) (by
 rintro r H' ⟨m,d,h2,B,G,I,J,K,O,rfl⟩;exact ⟨_,⟨m,d,h2,B,G,I,J,K,O,V⟩,CL fun f g=>by simp only [CA,FG,DB,CZ.mem,CZ.A62,g]<;>omega⟩)
theorem pL{sh:List Int}{m:List AA}(U:Row 3 v (sh.map (Value.int .i64)) m)(pos cap:Int)(Z:0<=pos/\pos<=10000)(hc:1<=cap/\cap<=1000000)(X:1<=sh.length/\sh.length<=8)(h0:∀x∈sh,0<=x)(g:sh.sum<=cap):Ba prog 9 #[I4 pos,I4 cap,v] [m] (fun r H'=>∃c:CZ,r= .tuple #[.pointer (some ⟨c.cp,0,none⟩),I4 0]/\c.ok/\(c.its=[]/\c.PL=[]/\c.win=[])/\c.pos=pos/\c.next=0/\c.ns=sh.length/\c.z.cap=cap/\H'=[c.mem,m]):=Ec (nU U pos cap Z hc X h0 g) [] (B0) (by
 rintro r H' ⟨c,B,h2,G,I,J,K,O,rfl⟩;exact ⟨_,⟨c,B,h2,G,I,J,K,O,V⟩,CL fun f W=>by simp only [CA,FG,DB,CZ.mem,CZ.A62,W]<;>omega⟩)
theorem zn(h:c.ok)(G:Ck ME (.slice qa cs.length cap) cs)(I:EJ p cs)(J:p=c.pos+1):Ba prog 12 #[.pointer (some ⟨c.cp,0,none⟩),.agg #[I4 p,.slice qa cs.length cap]] [c.mem,ME] (fun r H'=>∃(d:CZ) (q2:Option Addr) (cap2:Nat) (zs:List ByteArray) (tv:Value) (s:List AA),r= .tuple #[tv,I4 0]/\H8 c d p cs q2 cap2 zs/\Row 9 tv (zs.map Value.string) s/\H'=[d.mem,ME,s]):=Ec (ak h G I J) [] (CL fun f g=>by simp only [CA,FG,DB,CZ.mem,CZ.A62,g]<;>omega) (by
 rintro r H' ⟨d,q2,cap2,zs,tv,s,K,m,h2,_,B,rfl⟩;exact ⟨_,⟨d,q2,cap2,zs,tv,s,m,h2,B,V⟩,CL fun f g=>by simp only [CA,FG,DB,CZ.mem,CZ.A62,g]<;>omega⟩)
theorem ZI(h:c.okb)(g:Ck ME (.slice qa cs.length cap) cs)(m:EJ p cs)(G:p≠c.pos+1):BH prog 12 #[.pointer (some ⟨c.cp,0,none⟩),.agg #[I4 p,.slice qa cs.length cap]] [c.mem,ME] (.tuple #[.slice none 0 0,I4 180]):=JM (au h g m G) ((c.sW:List AA)++(c.z.S:List AA)++([(c.mb,.map c.esP c.ckP)]:List AA)++(c.su:List AA)++([(c.ip,.cells #[.map (some c.mq),c.lv] 163 (0,0))]:List AA)++([(c.mq,.map c.esQ c.ckQ)]:List AA)++(c.ML:List AA)++([(c.mi,.map c.esI c.ckI)]:List AA)++([(c.mkb,.map c.esK c.ckK)]:List AA)++(c.SI:List AA)++(c.M:List AA)++(c.MR:List AA)++[]) (CL fun f B=>by simp only [CA,FG,DB,CZ.mem,CZ.A62,B]<;>omega)
variable{q:QM}
theorem vn(h:c.ok)(hq:BJ q)(hk:k<c.ns)(J:k<=1000000)(base:Int)(hb:0<=base/\base<=10000){pg:Option Addr}{cg:Nat}{L:List RP}(hL:Fu ME (.slice pg L.length cg) L)(I:L.length<=1000000)(B:∀x∈L,x.fits){r0:CE}(K:Eb q L=some r0)(ax:c.next<1000000000)(af:c.its.length<500)(O:(c.pos -base).toNat<=c.win.length->1+((BC q r0 base (DD c.pos base c.win)).1.rows.length:Int)<=c.z.fr)(Z:TypeId)(zp:Nat×Nat):Ba prog 10 #[.pointer (some ⟨c.cp,0,none⟩),.agg #[I4 q.kd,I4 q.tb,I4 q.cl,I4 q.lo,I4 q.hi,I4 q.bq,I4 q.ot,I4 (k:Int),I4 base,.slice pg L.length cg]] [c.mem,ME,[(1,.cells (Lib.pow10Tab.map fun z=>Value.int .u64 z).toArray Z zp)]] (fun w H'=>∃(b:Bool) (d:CZ),w= .bool b/\d.ok/\c.like d/\(c.next<=d.next/\d.next<=c.next+1)/\q7 c d q (k:Int) base L (BC q r0 base (DD c.pos base c.win)) b/\H'=[d.mem,ME,[(1,.cells (Lib.pow10Tab.map fun z=>Value.int .u64 z).toArray Z zp)]]):=by
 have G:c.like c:=⟨rfl,rfl,rfl,rfl,rfl⟩;by_cases g:(c.pos -base).toNat<=c.win.length
 · cases hrun:(BC q r0 base (DD c.pos base c.win)).2.2 with
   |false=>
    refine Ec (qN h hq hk J base hb hL I B K g hrun Z zp) ((c.z.S:List AA)++([(c.mb,.map c.esP c.ckP)]:List AA)++(c.su:List AA)++([(c.ip,.cells #[.map (some c.mq),c.lv] 163 (0,0))]:List AA)++([(c.mq,.map c.esQ c.ckQ)]:List AA)++(c.ML:List AA)++([(c.mi,.map c.esI c.ckI)]:List AA)++([(c.mkb,.map c.esK c.ckK)]:List AA)++(c.SI:List AA)++(c.MR:List AA)++[]) (CL fun f m=>by simp only [CA,FG,DB,CZ.mem,CZ.A62,m]<;>omega) ?_;rintro w H' ⟨rfl,rfl⟩;exact ⟨_,⟨false,c,rfl,h,G,⟨ZS _,by omega⟩,.inl ⟨rfl,rfl,fun h9=>by rw [hrun]at h9;exact absurd h9.2 AH⟩,rfl⟩,CL fun f m=>by simp only [CA,FG,DB,CZ.mem,CZ.A62,m]<;>omega⟩
   |true=>
    by_cases hx:∃x∈c.its,x.key=str (Ci q)
    · obtain ⟨x,hx,U⟩:=hx
      have bn:∀y∈c.its,y.key=str (Ci q)->y=x:=fun y hy W=>GI h.its.keys hy hx (W.trans U.symm);by_cases bg:base<=x.base
      · refine Ec (qM h hq hk J base hb hL I B K g hrun hx U bg Z zp) ((c.z.S:List AA)++([(c.mb,.map c.esP c.ckP)]:List AA)++(c.su:List AA)++([(c.ip,.cells #[.map (some c.mq),c.lv] 163 (0,0))]:List AA)++([(c.mq,.map c.esQ c.ckQ)]:List AA)++(c.ML:List AA)++([(c.mkb,.map c.esK c.ckK)]:List AA)++(c.MR:List AA)++[]) (CL fun f m=>by simp only [CA,FG,DB,CZ.mem,CZ.A62,m]<;>omega) ?_
        rintro w H' ⟨rfl,rfl⟩;exact ⟨_,⟨true,c,V,h,G,⟨ZS _,by omega⟩,.inr ⟨V,⟨g,hrun⟩,fun e he=> .inl he,.inl ⟨V,x,hx,U,bg⟩⟩,V⟩,CL fun f m=>by simp only [CA,FG,DB,CZ.mem,CZ.A62,m]<;>omega⟩
      · refine Ec (kV h hq hk J base hb hL I B K g hrun ax hx U A1 (O g) Z zp) [] (CL fun f m=>by simp only [CA,FG,DB,CZ.mem,CZ.A62,m]<;>omega) ?_
        rintro w H' ⟨rfl,d,b,rq,wq,rc,wc,s,h1,h2,h3,_,h5,h6,rfl⟩;exact ⟨_,⟨true,d,rfl,h1,h2,⟨by omega,by omega⟩,.inr ⟨rfl,⟨g,hrun⟩,h6,.inr ⟨fun y hy W=>by rw [bn y hy W];omega,_,h5,rfl,rfl,rfl,rfl,rfl,.inr ⟨x,hx,U,rfl⟩⟩⟩,rfl⟩,CL fun f m=>by simp only [CA,FG,DB,CZ.mem,CZ.A62,m]<;>omega⟩
    · have X:∀y∈c.its,y.key≠str (Ci q):=fun y hy cu=>hx ⟨y,hy,cu⟩
      refine Ec (qL h hq hk J base hb hL I B K g hrun ax X af (O g) Z zp) [] (CL fun f m=>by simp only [CA,FG,DB,CZ.mem,CZ.A62,m]<;>omega) ?_;rintro w H' ⟨rfl,d,b,rq,wq,rc,wc,s,h1,h2,h3,_,h5,h6,rfl⟩;exact ⟨_,⟨true,d,rfl,h1,h2,⟨by omega,by omega⟩,.inr ⟨rfl,⟨g,hrun⟩,h6,.inr ⟨fun y hy W=>absurd W (X y hy),_,by rw [h5,aL X],rfl,rfl,rfl,rfl,rfl,.inl ⟨rfl,X⟩⟩⟩,rfl⟩,CL fun f m=>by simp only [CA,FG,DB,CZ.mem,CZ.A62,m]<;>omega⟩
 · refine Ec (wX h hq hk J base hb hL I B K g Z zp) ((c.z.S:List AA)++([(c.mb,.map c.esP c.ckP)]:List AA)++(c.su:List AA)++([(c.ip,.cells #[.map (some c.mq),c.lv] 163 (0,0))]:List AA)++([(c.mq,.map c.esQ c.ckQ)]:List AA)++(c.ML:List AA)++([(c.mi,.map c.esI c.ckI)]:List AA)++([(c.mkb,.map c.esK c.ckK)]:List AA)++(c.SI:List AA)++(c.MR:List AA)++[]) (CL fun f m=>by simp only [CA,FG,DB,CZ.mem,CZ.A62,m]<;>omega) ?_
   rintro w H' ⟨rfl,rfl⟩;exact ⟨_,⟨false,c,V,h,G,⟨ZS _,by omega⟩,.inl ⟨V,V,fun h9=>g h9.1⟩,V⟩,CL fun f m=>by simp only [CA,FG,DB,CZ.mem,CZ.A62,m]<;>omega⟩
noncomputable instance(a b:Iw):Decidable (a=b):=Classical.propDecidable _
def Iw.ok(h:Iw):Prop:=(0<=h.p/\h.p<=10000)/\h.ch.length=32/\h.st.length=32
instance(h:Iw):Decidable h.ok:=inferInstanceAs(Decidable (_/\_))
variable{y:Chg}
theorem ra{x:Chg}:x=y↔x.t=y.t/\x.k=y.k/\x.had=y.had/\x.o=y.o/\x.has=y.has/\x.n=y.n:=by
 obtain ⟨a,b,c,d,e,f⟩:=x;obtain ⟨g,m,c',B,e',G⟩:=y;simp only [Chg.mk.injEq]
theorem eqC(x y:Chg):EqT prog 3 62 (.agg x.A57) (.agg y.A57) (decide (x=y)):=
 U0 B8 A6 (.cons AH (DK AD rfl) (DK AD rfl) (J3 C5 _ _)<| .cons AH (DK AD rfl) (DK AD rfl) (J3 C5 _ _)<| .cons AH (DK DM rfl) (DK DM rfl) (aT Lk _ _)<| .cons AH (Om (cs:=#[I4 x.o.a,I4 x.o.b,I4 x.o.c]) GS D3 rfl (by exact (by decide:(6:Nat)<=10))) (Om (cs:=#[I4 y.o.a,I4 y.o.b,I4 y.o.c]) GS D3 rfl (by exact (by decide:(6:Nat)<=10))) (aU HP C5 AD A4 x.o y.o)<| .cons AH (DK DM rfl) (DK DM rfl) (aT Lk _ _)<| .cons AH (Om (cs:=#[I4 x.n.a,I4 x.n.b,I4 x.n.c]) GS D3 rfl (by exact (by decide:(10:Nat)<=10))) (Om (cs:=#[I4 y.n.a,I4 y.n.b,I4 y.n.c]) GS D3 rfl (by exact (by decide:(10:Nat)<=10))) (aU HP C5 AD A4 x.n y.n)<| .nil) (by
  rw [ij];simp only [List.all_cons,List.all_nil,iz,F2,id,Fl,ra])
theorem tI{x y:QM}:x=y↔x.kd=y.kd/\x.tb=y.tb/\x.cl=y.cl/\x.lo=y.lo/\x.hi=y.hi/\x.bq=y.bq/\x.ot=y.ot:=by
 obtain ⟨a,b,c,d,e,f,g⟩:=x;obtain ⟨m,B,c',G,e',I,J⟩:=y;simp only [QM.mk.injEq]
theorem eqQ(x y:QM):EqT prog 3 28 (.agg x.A59) (.agg y.A59) (decide (x=y)):=
 U0 CC A6 (.cons AH (DK AD rfl) (DK AD rfl) (J3 C5 _ _)<| .cons AH (DK AD rfl) (DK AD rfl) (J3 C5 _ _)<| .cons AH (DK AD rfl) (DK AD rfl) (J3 C5 _ _)<| .cons AH (DK AD rfl) (DK AD rfl) (J3 C5 _ _)<| .cons AH (DK AD rfl) (DK AD rfl) (J3 C5 _ _)<| .cons AH (DK AD rfl) (DK AD rfl) (J3 C5 _ _)<| .cons AH (DK AD rfl) (DK AD rfl) (J3 C5 _ _)<| .nil) (by
  rw [ij];simp only [List.all_cons,List.all_nil,iz,F2,id,Fl,tI])
def BN.key(r:BN):Int×List Chg:=(r.p,r.cs)
def vK(h:Iw)(r:BN)(st:Bs):Prop:=EJ r.p r.cs/\h.ok/\st.length=32/\r.p=h.p+1
noncomputable instance(h:Iw)(r:BN)(st:Bs):Decidable (vK h r st):=Classical.propDecidable _
def tg(h:Iw)(r:BN)(st:Bs):Iw:=⟨r.p,rh h.ch (rS r.p r.cs),st⟩
noncomputable def yT(st:Bs):Iw->List BN->Option Iw
 |h,[]=>some h
 |h,r::l=>if vK h r st then yT st (tg h r st) l else none
def bF(a:Iw)(l:List BN)(b:Iw):Prop:=a.ok/\b.ok/\yT b.st a l=some b
noncomputable instance(a:Iw)(l:List BN)(b:Iw):Decidable (bF a l b):=Classical.propDecidable _
def bH.eqv(a b:bH):Prop:=a.q=b.q/\a.since=b.since/\a.until_=b.until_/\a.base=b.base/\a.res=b.res/\a.ranges=b.ranges/\a.recs.map BN.key=b.recs.map BN.key
instance(a b:bH):Decidable (a.eqv b):=inferInstanceAs(Decidable (_/\_))
def s8(base until_:Iw)(a:bH):Prop:=base.p=a.base/\until_.p=a.until_/\bF base a.recs until_/\(∀x∈a.ranges,q6 base.st x)/\∃b,Jt a.q a.base a.ranges a.recs=some b/\a.eqv b
noncomputable instance(base until_:Iw)(a:bH):Decidable (s8 base until_ a):=Classical.propDecidable _
def RP.small(x:RP):Prop:=(∀s∈x.roots,s.length<=140737488354000)/\∀l∈x.paths,l.length<=1000000
def putE(n:Int):Int:=if n< -4611686018427387903 then 10 else 0
theorem OM{z:Int}(k:Int)(m:1<=k)(g:-9223372036854775808<=z)(h2:z<=9223372036854775807):-9223372036854775808<=z.tdiv k/\z.tdiv k<=9223372036854775807:=by
 have h:=Int.natAbs_tdiv_le_natAbs z k;rcases Int.lt_or_le z 0 with hz|hz
 · have:z.tdiv k<=0:=by
    obtain ⟨y,rfl⟩:∃y,z=-y:=⟨-z,by omega⟩;rw [Int.neg_tdiv];have:=Int.tdiv_nonneg (a:=y) (b:=k) A1 A1
    omega
   omega
 · have:=Int.tdiv_nonneg hz (show(0:Int)<=k by omega)
   omega
theorem Us{kd tb cl lo hi bq ot:Int}(h:(0<=tb/\tb<=3)/\(0<=cl/\cl<=3)/\(-1000000000<=lo/\lo<=hi/\hi<=1000000000)/\
 ((kd=1/\cl=0/\lo=hi/\(1<=lo/\lo<=1000000)/\bq=0/\ot=0)\/((kd=2\/kd=3)/\bq=0/\ot=0)\/
  ((kd=4\/kd=5\/kd=6)/\(1<=bq/\bq<=3)/\ot=0)\/(kd=7/\(1<=bq/\bq<=3)/\(0<=ot/\ot<=3)))):BJ ⟨kd,tb,cl,lo,hi,bq,ot⟩:=h
theorem qP(rs:List AV)(c:Chg):(EK rs c).length<=rs.length+1:=by
 unfold EK Nn;simp only [B7,C3,C2];split<;>simp only [E3,KK]<;>omega
theorem Sd:∀(cs:List Chg) (rs:List AV),(DN rs cs).length<=rs.length+cs.length
 |[],_=>CM _
 |c::cs,rs=>by
  have g:=Sd cs (EK rs c);have h2:=qP rs c
  rw [DG];exact MY g A1
variable{l:List BN}
theorem FB.few(h:FB l):∀i,i<=l.length->(BZ (l.take i)).length<=3*i
 |0,_=>by rw [ID];exact CM _
 |i+1,hi=>by
  obtain ⟨r,g⟩:∃r,l[i]?=some r:=⟨_,B3 A1⟩;rw [Bi g,Gi];have m:=Sd r.cs (BZ (l.take i))
  have h2:=FB.few h i A1;have B:=(h i r g).2
  omega
variable{M:List AA}
theorem ue{q:Option Addr}(m:EZ M (.slice q l.length cap) l)(g:FB l)(I:l.length<=1000000)(k:Nat)(B:k<=l.length):Ba prog 37 #[.slice q l.length cap,I4 (k:Int)] [M] (fun r H'=>∃v s,r= .tuple #[v,I4 0]/\RH v (k:Int) (BZ (l.take k)) s/\H'=[s,M]):=by
 refine Gy (tG q cap l M m g I k B) V ?_;rintro r H' ⟨U,O,es,ck,lm,rfl,J,G,rfl⟩;obtain ⟨K,hn⟩:=g.rows k B;exact ⟨_,⟨_,_,V,⟨U,O,es,ck,lm,V,J,G,K,hn,V⟩,V⟩,by simp⟩
def GK(l:List BN)(a b:Nat):List BN:=(l.drop a).take (b -a)
variable{a:Nat}
theorem ku{b:Nat}(g:b<=l.length):(GK l a b).length=b -a:=by unfold GK;rw [C3,C2];omega
theorem pE(h:FB l)(B:l.length<=20)(g:k<=l.length)(q:QM):(CR (BZ (l.take k)) q).length<=100:=by
 have m:=h.few k g;have h2:=(@SX (BZ (l.take k)) q.tb q.cl.toNat q.lo q.hi).1
 unfold CR;omega
theorem lZ(rs:List AV)(q:QM):(Fe rs q).length<=1+(CR rs q).length:=by
 unfold Fe;split;· rw [DG,B4];omega
 · simp
def Ga(x0 x1 x2 x3 x4:Int):QM:=
 if CG x0 7=0 then⟨((1+CG x0 7:Nat):Int),(CG (x0.tdiv 7) 3:Int),0,((1+CG x1 9:Nat):Int),((1+CG x1 9:Nat):Int),0,0⟩
 else⟨((1+CG x0 7:Nat):Int),(CG (x0.tdiv 7) 3:Int),(CG x1 4:Int),(CG x2 12:Int) -3,(CG x2 12:Int) -3+(CG x3 14:Int),if 3<=CG x0 7 then((1+CG x4 3:Nat):Int)else 0,if CG x0 7=6 then(CG (x4.tdiv 3) 3:Int)else 0⟩
theorem dO(g m G I B:Int):BJ (Ga g m G I B):=by
 have a0:=Dm g 7 AH;have J:=Dm (g.tdiv 7) 3 AH
 have K:=Dm m 9 AH;have O:=Dm m 4 AH
 have U:=Dm G 12 AH;have W:=Dm I 14 AH
 have X:=Dm B 3 AH;have Z:=Dm (B.tdiv 3) 3 AH
 unfold Ga;split;· exact Us A1
 · split<;>split<;>exact Us A1
theorem Gs(c:Int)(n:Nat)(hn:0<n)(m:n<=1000000)(B:-9223372036854775808<=c)(h2:c<=9223372036854775807):BH prog 8 #[I4 c,I4 (n:Int)] [] (I4 (CG c n:Int)):=by
 refine Se func8 ntmps8 [0,1] ?_;intro u R;refine A0<|A3 Y<|Zq<|A0<|Zm Y<|Zv (Dv Y Y)<|A5<|Aq Y (fun g=>?_) (fun g=>?_);·
  refine Zg<|Zm Y<|Yi Y Y ?_;refine Bb (j4 Y (IntWalk.i64_in _ A1))<|A3 Y<|A0<|Zm Y<|Zm Y<|Bb (qf Y Y A1 rfl)<|A3 Y<|AJ<|AO rfl results8 Y (by exact ⟨by rw [<-Yj];simp [*],rfl⟩)
 refine AC<|Zx<|A0<|Zm Y<|Zm Y<|Bb (qf Y Y A1 rfl)<|A3 Y<|AJ<|AO rfl results8 Y (by exact ⟨by rw [<-Yj];simp [*],rfl⟩)
set_option maxHeartbeats 1000000 in
theorem qK(g G q2 J I:Int)(K:-9223372036854775808<=g)(O:g<=9223372036854775807)(Z:-9223372036854775808<=G)(af:G<=9223372036854775807)(ax:-9223372036854775808<=q2)(bg:q2<=9223372036854775807)(bn:-9223372036854775808<=J)(cu:J<=9223372036854775807)(U:-9223372036854775808<=I)(W:I<=9223372036854775807):BH prog 6 #[.agg #[I4 g,I4 G,I4 q2,I4 J,I4 I]] [] (.agg #[I4 (Ga g G q2 J I).kd,I4 (Ga g G q2 J I).tb,I4 (Ga g G q2 J I).cl,I4 (Ga g G q2 J I).lo,I4 (Ga g G q2 J I).hi,I4 (Ga g G q2 J I).bq,I4 (Ga g G q2 J I).ot]):=by
 have B:=OM 7 AH K O;have cO:=Dm (g.tdiv 7) 3 AH
 have X:=OM 3 AH U W;have ek:=Dm (I.tdiv 3) 3 AH
 have gy:=Dm g 7 AH;have gB:=Dm G 9 AH
 have d9:=Dm G 4 AH;have gF:=Dm q2 12 AH
 have ic:=Dm J 14 AH;have j3:=Dm I 3 AH
 refine Se func6 ntmps6 [0] ?_;intro u R;refine A0<|Ze (Bx #[_,_,_,_,_])<|AE fun bx=>Ze (Al Mn #[_,_,_,_,_,_,_])<|AE fun br=>A5<|Zb [1,2] ?_;refine DJ (e0:=[]) (H0:=[]) (fun e H=>∃(bq:Nat),(True)/\e=[(3,I5 bq)]/\H=[[(bq,.cells #[I4 ((1+CG g 7:Nat):Int),I4 (CG (g.tdiv 7) 3:Int),I4 0,I4 0,I4 0,I4 0,I4 0] 28 (0,0))]]) Wp ?hx_1 ?hy_1
 case hx_1=>
  refine Az (n:=11) (0::1::3::7::0::16::48::119::255::0::1023::[]) 1668 A6 A6 V ?_;first|(refine Dr (D':=1) 0 (BI (j:=0) LS A4 Y Y ?_) ?_;(focus (first|omega|decide|(simp;done))))|(refine Dr (D':=1) 0 (Cr (j:=0) LS A4 Y Y ?_) ?_;(focus (first|omega|decide|(simp;done))))
  refine B2 1 V AD Y ?_;first|(refine Dr (D':=19) 4 (BI (j:=0) LS A4 Y Y ?_) ?_;(focus (first|omega|decide|(simp;done))))|(refine Dr (D':=19) 4 (Cr (j:=0) LS A4 Y Y ?_) ?_;(focus (first|omega|decide|(simp;done))))
  refine B2 5 V AD Y ?_;refine A2 6 V (qg (m:=g) (n:=7) Y Y AH (IntWalk.i64_in _ (by have:=OM 7 AH K O;omega)))<|Zz (l:=[2,9])<|B1 [true,false] [(5,(_,_))] V rfl (Zu [_,_] Y Of Y V (Gs g 7 AH AH K O)) ?_ (fun _ _ h=>h.elim) ?_;·
   rintro _ _ ⟨rfl,rfl⟩;refine ⟨Zk (Aa),?_⟩;first|(refine Dr (D':=127) 3 (EC (m:=1) Y Y ?_) ?_;(focus (omega)))|(refine Dr (D':=127) 3 (He Y Y (IntWalk.i64_in _ ?_)) ?_;(focus (omega)))
   refine Zz (l:=[7,9])<|B1 [false] [] V rfl (Zu [_,_] Y Of Y V (Gs (g.tdiv 7) 3 AH AH B.1 B.2)) ?_ (fun _ _ h=>h.elim) ?_;·
    rintro _ _ ⟨rfl,rfl⟩;refine B6<|A2 8 V (BM (vs:=[(0,I4 ((1+CG g 7:Nat):Int)),(1,I4 (CG (g.tdiv 7) 3:Int))]) (cs:=#[I4 ((1+CG g 7:Nat):Int),I4 (CG (g.tdiv 7) 3:Int),I4 0,I4 0,I4 0,I4 0,I4 0]) Y (AZ (pl:=#[(0,1),(1,1),(2,1),(3,1),(4,1),(5,1),(6,1)]) Mn CC (fun _=>by kernel_rfl) A6))<|Yw 9 1023 V (Al Mn #[_,_,_,_,_,_,_])<|AE fun bq=>Yw 10 2047 V (Xw C7 #[I4 ((1+CG g 7:Nat):Int),I4 (CG (g.tdiv 7) 3:Int),I4 0,I4 0,I4 0,I4 0,I4 0])<|CT<|Ag<|Zn [3,1,2] ?_;refine BO (e':=[(3,_)]) (by exact ⟨bq,trivial,V,V⟩)
   refine B1 [true] [(5,(_,_))] V rfl (Al Mn #[_,_,_,_,_,_,_]) ?_ (fun _ _ h=>h.elim) Ai;rintro _ _ ⟨bq,rfl,rfl⟩;refine B6<|Yw 7 767 V (Zu [_,_] Y Of Y V (Gs (g.tdiv 7) 3 AH AH B.1 B.2))<|CT<|A2 8 V (BM (vs:=[(0,I4 ((1+CG g 7:Nat):Int)),(1,I4 (CG (g.tdiv 7) 3:Int))]) (cs:=#[I4 ((1+CG g 7:Nat):Int),I4 (CG (g.tdiv 7) 3:Int),I4 0,I4 0,I4 0,I4 0,I4 0]) Y (AZ (pl:=#[(0,1),(1,1),(2,1),(3,1),(4,1),(5,1),(6,1)]) Mn CC (fun _=>by kernel_rfl) A6))<|Yw 10 2047 V (Xw C7 #[I4 ((1+CG g 7:Nat):Int),I4 (CG (g.tdiv 7) 3:Int),I4 0,I4 0,I4 0,I4 0,I4 0])<|CT<|Ag<|Zn [3,1,2] ?_;refine BO (e':=[(3,_)]) (by exact ⟨bq,trivial,V,V⟩)
  refine B1 [true,true] [(5,(_,_)),(1,(_,_))] V rfl (Al Mn #[_,_,_,_,_,_,_]) ?_ (fun _ _ h=>h.elim) Ai;rintro _ _ ⟨bq,rfl,rfl⟩;refine B6<|Yz 2 3 631 [5,1] [true,false] [(5,(_,_))] V Y V rfl V rfl (Zu [_,_] Y Of Y V (Gs g 7 AH AH K O)) ?_;rintro _ _ ⟨rfl,rfl⟩;refine ⟨Zk (Aa),?_⟩;first|(refine Dr (D':=639) 3 (EC (m:=1) Y Y ?_) ?_;(focus (omega)))|(refine Dr (D':=639) 3 (He Y Y (IntWalk.i64_in _ ?_)) ?_;(focus (omega)))
  refine Yw 7 767 V (Zu [_,_] Y Of Y V (Gs (g.tdiv 7) 3 AH AH B.1 B.2))<|CT<|A2 8 V (BM (vs:=[(0,I4 ((1+CG g 7:Nat):Int)),(1,I4 (CG (g.tdiv 7) 3:Int))]) (cs:=#[I4 ((1+CG g 7:Nat):Int),I4 (CG (g.tdiv 7) 3:Int),I4 0,I4 0,I4 0,I4 0,I4 0]) Y (AZ (pl:=#[(0,1),(1,1),(2,1),(3,1),(4,1),(5,1),(6,1)]) Mn CC (fun _=>by kernel_rfl) A6))<|Yw 10 2047 V (Xw C7 #[I4 ((1+CG g 7:Nat):Int),I4 (CG (g.tdiv 7) 3:Int),I4 0,I4 0,I4 0,I4 0,I4 0])<|CT<|Ag<|Zn [3,1,2] ?_;refine BO (e':=[(3,_)]) (by exact ⟨bq,trivial,V,V⟩)
 rintro _ _ ⟨bq,_,rfl,rfl⟩;refine Zq<|A0<|Zh 0 CC V rfl A4 Y<|Zl AD Y ?_;first|refine Bb (Cb (n:=1) Y Y) ?_|refine Bb (CP Y Y) ?_
 refine Z0<|Zx ?_;first|refine Aq Y (fun k1=>?_) (fun k1=>?_)|refine AX Y (fun k1=>?_) (fun k1=>?_)
 ·
  refine Zq<|Zg ?_;first|(refine Bb (BI (j:=1) LS A4 Y Y ?_) ?_;(focus (first|omega|decide|(simp;done))))|(refine Bb (Cr (j:=1) LS A4 Y Y ?_) ?_;(focus (first|omega|decide|(simp;done))))
  refine Zl AD Y ?_;refine Xr [_,_] Y Of Y V (Gs G 9 AH AH Z af) ?_;first|(refine Bb (EC (m:=1) Y Y ?_) ?_;(focus (omega)))|(refine Bb (He Y Y (IntWalk.i64_in _ ?_)) ?_;(focus (omega)))
  refine Zh 3 CC rfl rfl A4 Y<|Xe (Zs A4 Y Y rfl (hi:=by first|omega|decide|(simp;done))) ?_;refine A5<|A0<|Zh 3 CC V rfl A4 Y<|Zl AD Y ?_;refine Zh 4 CC rfl rfl A4 Y<|Xe (Zs A4 Y Y rfl (hi:=by first|omega|decide|(simp;done))) ?_;refine Z0<|Zn [2,3] ?_;refine Zx<|A0<|Zo Wh (A9 (cs:=#[_,_,_,_,_,_,_]) Dd C7 Y Wb (by exact BK V)) ?_;refine Xe (BL C7 Y Y p6 Wu (by exact Dw rfl) E6 Wb (by exact BB _)) ?_;refine A5<|AJ<|Zt<|Cu V results6 Y Wh (Am Dd C7 Wn (BK V)) (by
   refine ⟨?_,V⟩;unfold Ga;rw [AM A1]<;>rfl)
 refine AC<|Zx<|Zq<|Zg ?_;first|(refine Bb (BI (j:=1) LS A4 Y Y ?_) ?_;(focus (first|omega|decide|(simp;done))))|(refine Bb (Cr (j:=1) LS A4 Y Y ?_) ?_;(focus (first|omega|decide|(simp;done))))
 refine Zl AD Y ?_;refine Xr [_,_] Y Of Y V (Gs G 4 AH AH Z af) ?_;refine Zh 2 CC rfl rfl A4 Y<|Xe (Zs A4 Y Y rfl (hi:=by first|omega|decide|(simp;done))) ?_;refine A5<|Zq<|Zg ?_;first|(refine Bb (BI (j:=2) LS A4 Y Y ?_) ?_;(focus (first|omega|decide|(simp;done))))|(refine Bb (Cr (j:=2) LS A4 Y Y ?_) ?_;(focus (first|omega|decide|(simp;done))))
 refine Zl AD Y ?_;refine Xr [_,_] Y Of Y V (Gs q2 12 AH AH ax bg) ?_;first|(refine Bb (CO (n:=3) Y Y ?_ ?_) ?_;(focus (omega));(focus (omega)))|(refine Bb (GL Y Y (IntWalk.i64_in _ ?_)) ?_;(focus (omega)))
 refine Zh 3 CC rfl rfl A4 Y<|Xe (Zs A4 Y Y rfl (hi:=by first|omega|decide|(simp;done))) ?_;refine Z0<|Zn [1,2,3] ?_;refine Zx<|Zq<|Az (n:=8) (0::1::0::4::12::31::63::127::[]) 144 A6 A6 V<|A2 0 V (AB (off:=3) CC V rfl A4 Y)<|B2 1 V AD Y ?_;first|(refine Dr (D':=7) 2 (BI (j:=3) LS A4 Y Y ?_) ?_;(focus (first|omega|decide|(simp;done))))|(refine Dr (D':=7) 2 (Cr (j:=3) LS A4 Y Y ?_) ?_;(focus (first|omega|decide|(simp;done))))
 refine B2 3 V AD Y ?_;refine Yz 4 12 31 [3,1] [false,true] [(1,(_,_))] V Y V rfl V rfl (Zu [_,_] Y Of Y V (Gs J 14 AH AH bn cu)) ?_;rintro _ _ ⟨rfl,rfl⟩;refine ⟨Zk (Aa),?_⟩;first|(refine Dr (D':=63) 5 (EC Y Y ?_) ?_;(focus (omega)))|(refine Dr (D':=63) 5 (He Y Y (IntWalk.i64_in _ ?_)) ?_;(focus (omega)))
 refine A2 6 rfl (AB (off:=4) CC rfl rfl A4 Y)<|Zz (l:=[7])<|B1 [false] [] rfl rfl (Zs A4 Y Y rfl (hi:=by first|omega|decide|(simp;done))) ?_ (fun _ _ h=>h.elim) Ai;rintro _ _ ⟨rfl,rfl⟩;refine B6<|Ag<|Zx<|Zb [1,2,3] ?_;refine DJ (e0:=[]) (H0:=[[(bq,.cells #[I4 ((1+CG g 7:Nat):Int),I4 (CG (g.tdiv 7) 3:Int),I4 (CG G 4:Int),I4 ((CG q2 12:Int) -3),I4 ((CG q2 12:Int) -3+(CG J 14:Int)),I4 0,I4 0] 28 (0,0))]]) (fun e H=>∃(w5:Int),(w5=if 3<=CG g 7 then((1+CG I 3:Nat):Int)else 0)/\e=[]/\H=[[(bq,.cells #[I4 ((1+CG g 7:Nat):Int),I4 (CG (g.tdiv 7) 3:Int),I4 (CG G 4:Int),I4 ((CG q2 12:Int) -3),I4 ((CG q2 12:Int) -3+(CG J 14:Int)),I4 w5,I4 0] 28 (0,0))]]) Wp ?hx_19 ?hy_19
 case hx_19=>
  refine A0<|Zh 0 CC V rfl A4 Y<|Zl AD Y ?_;first|refine Bb (G6 (n:=4) Y Y) ?_|refine Bb (Ha Y Y) ?_
  refine Z0<|Zx ?_;first|refine Aq Y (fun k2=>?_) (fun k2=>?_)|refine AX Y (fun k2=>?_) (fun k2=>?_)
  ·
   refine Zg ?_;first|(refine Bb (BI (j:=4) LS A4 Y Y ?_) ?_;(focus (first|omega|decide|(simp;done))))|(refine Bb (Cr (j:=4) LS A4 Y Y ?_) ?_;(focus (first|omega|decide|(simp;done))))
   refine Zl AD Y ?_;refine Xr [_,_] Y Of Y V (Gs I 3 AH AH U W) ?_;first|(refine Bb (EC (m:=1) Y Y ?_) ?_;(focus (omega)))|(refine Bb (He Y Y (IntWalk.i64_in _ ?_)) ?_;(focus (omega)))
   refine Zh 5 CC rfl rfl A4 Y<|Xe (Zs A4 Y Y rfl (hi:=by first|omega|decide|(simp;done))) ?_;refine Z0<|Zn [1,2,3] ?_;refine BO (e':=[]) (by first|exact ⟨_,(AM A1).symm,rfl,rfl⟩|exact ⟨0,(AK A1).symm,rfl,rfl⟩)
  refine AC<|Zn [1,2,3] ?_;refine BO (e':=[]) (by first|exact ⟨_,(AM A1).symm,rfl,rfl⟩|exact ⟨0,(AK A1).symm,rfl,rfl⟩)
 rintro _ _ ⟨w5,gm,rfl,rfl⟩;refine Zb [1,2,3] ?_;refine DJ (e0:=[(1,_)]) (H0:=[[(bq,.cells #[I4 ((1+CG g 7:Nat):Int),I4 (CG (g.tdiv 7) 3:Int),I4 (CG G 4:Int),I4 ((CG q2 12:Int) -3),I4 ((CG q2 12:Int) -3+(CG J 14:Int)),I4 w5,I4 0] 28 (0,0))]]) (fun e H=>∃(w6:Int),(w6=if CG g 7=6 then(CG (I.tdiv 3) 3:Int)else 0)/\e=[]/\H=[[(bq,.cells #[I4 ((1+CG g 7:Nat):Int),I4 (CG (g.tdiv 7) 3:Int),I4 (CG G 4:Int),I4 ((CG q2 12:Int) -3),I4 ((CG q2 12:Int) -3+(CG J 14:Int)),I4 w5,I4 w6] 28 (0,0))]]) Wp ?hx_22 ?hy_22
 case hx_22=>
  refine A0<|Zh 0 CC V rfl A4 Y<|Zl AD Y ?_;first|refine Bb (Cb (n:=7) Y Y) ?_|refine Bb (CP Y Y) ?_
  refine Z0<|Zx ?_;first|refine Aq Y (fun k3=>?_) (fun k3=>?_)|refine AX Y (fun k3=>?_) (fun k3=>?_)
  ·
   refine Zg ?_;first|(refine Bb (BI (j:=4) LS A4 Y Y ?_) ?_;(focus (first|omega|decide|(simp;done))))|(refine Bb (Cr (j:=4) LS A4 Y Y ?_) ?_;(focus (first|omega|decide|(simp;done))))
   refine Zl AD Y ?_;refine Zv (qg (m:=I) (n:=3) Y Y AH (IntWalk.i64_in _ (by have:=OM 3 AH U W;omega)))<|Xr [_,_] Y Of Y V (Gs (I.tdiv 3) 3 AH AH X.1 X.2) ?_;refine Zh 6 CC rfl rfl A4 Y<|Xe (Zs A4 Y Y rfl (hi:=by first|omega|decide|(simp;done))) ?_;refine Z0<|Zn [2,3] ?_;refine BO (e':=[]) (by first|exact ⟨_,(AM A1).symm,rfl,rfl⟩|exact ⟨0,(AK A1).symm,rfl,rfl⟩)
  refine AC<|Zn [2,3] ?_;refine BO (e':=[]) (by first|exact ⟨_,(AM A1).symm,rfl,rfl⟩|exact ⟨0,(AK A1).symm,rfl,rfl⟩)
 rintro _ _ ⟨w6,gq,rfl,rfl⟩;refine A0<|Zo Wh (A9 (cs:=#[_,_,_,_,_,_,_]) Dd C7 Y Wb (by exact BK V)) ?_;refine Xe (BL C7 Y Y p6 Wu (by exact Dw rfl) E6 Wb (by exact BB _)) ?_;refine A5<|AJ<|Cu V results6 Y Wh (Am Dd C7 Wn (BK V)) (by
  refine ⟨?_,V⟩;unfold Ga;rw [AK A1,<-gm,<-gq]<;>rfl)
set_option maxHeartbeats 1000000 in
theorem XZ{p:Option Addr}(J:EZ M (.slice p l.length cap) l)(g:FB l)(U:l.length<=1000000)(a:Nat)(O:a<=l.length)(hq:BJ q)(B:(CR (BZ (l.take a)) q).length<=100)(te:Int)(K:TypeId)(X:Nat×Nat):Ba prog 11 #[.slice p l.length cap,I4 (a:Int),.agg q.A59,I4 te] [[(4,.cells (Et.map Cs).toArray K X)],M] (fun w H'=>∃(mem:List AA) (I:Option Addr) (G:Nat),Fu mem (.slice I (Fe (BZ (l.take a)) q).length G) (Fe (BZ (l.take a)) q)/\w= .agg #[I4 q.kd,I4 q.tb,I4 q.cl,I4 q.lo,I4 q.hi,I4 q.bq,I4 q.ot,I4 te,I4 (a:Int),.slice I (Fe (BZ (l.take a)) q).length G]/\H'=[mem,[(4,.cells (Et.map Cs).toArray K X)],M]):=by
 have cu:=mL;obtain ⟨p9,Z,e9,⟨bg,bn⟩,_⟩:=id J;injection e9 with e91 e92 e93
 subst e91 e93;obtain ⟨hs,hn⟩:=g.rows a O;have W:=g.rowsOk a O
 obtain ⟨L,hL⟩:∃L,L=Fe (BZ (l.take a)) q:=⟨_,rfl⟩;rw [<-hL];refine Se func11 ntmps11 [0,1,2,3] ?_;intro u R;refine A0<|Ze (Bx q.A59)<|AE fun bq=>Ze (Ea al (cs:=#[I4 0,I4 0,I4 0,I4 0,I4 0,I4 0,I4 0,I4 0,I4 0,.slice none 0 0]) A6)<|AE fun be=>A5<|A0<|Zm Y<|Zm Y<|Zc [_,_] Y call37 Y V (ue J g U a O) ?_;rintro _ _ ⟨_,⟨vs,ss,rfl,hS,rfl⟩,rfl⟩;refine Zm Y<|Zd Y V<|Zd Y V<|Za Y<|A3 Y<|A0<|Zm Y<|Zo Wh (A9 (cs:=#[_,_,_,_,_,_,_]) Dd C7 Y As (by exact BK V)) ?_;refine Zc [_,_] Y call38 Y V (zX _ _ _ _ hS hs hn W q hq B K X) ?_;rintro _ _ ⟨_,⟨vo,mem,rfl,m,rfl⟩,rfl⟩;rw [<-hL]at m;obtain ⟨I,G,rfl,af,ax⟩:=m.form;refine Zm Y<|Zd Y V<|Zd Y V<|Za Y<|AG Y<|Zn [1,3,6,8,11] ?_;refine Zx<|A0<|Zo Wh (A9 (cs:=#[_,_,_,_,_,_,_]) Dd C7 Y As (by exact BK V)) ?_;refine Zm Y<|Zm Y<|Zm Y<|Zv (BM (vs:=[(0,.agg q.A59),(1,I4 te),(2,I4 (a:Int)),(3,.slice I L.length G)]) (cs:=#[I4 q.kd,I4 q.tb,I4 q.cl,I4 q.lo,I4 q.hi,I4 q.bq,I4 q.ot,I4 te,I4 (a:Int),.slice I L.length G]) Y (AZ (pl:=#[(0,7),(7,1),(8,1),(9,1)]) al Ft (fun _=>by kernel_rfl) A6))<|Xe (BL HA Y Y HK Wu (by exact Dw rfl) E6 AH (by exact BB _)) ?_;refine A5<|AJ<|Cu V results11 Y Wh (Am SJ HA Wn (BK V)) (by exact ⟨mem,I,G,m,V,V⟩)
def exQ:QM:=⟨3,0,1,10,19,0,0⟩
theorem Tx:BJ exQ:=by decide
variable{rs:List AV}
theorem Sg(g:BQ rs)(hn:rs.length<=2000)(t c:Nat)(lo hi:Int):(Ep rs t c lo hi).fits:=by
 have m:=JH g (t:Int) c;refine ⟨?_,?_,?_,Yd g hn t c lo hi⟩
 · show(List.take _ (List.drop _ (BG rs (t:Int) c))).length<=_
   rw [C3,C2];omega
 · show(JF _ _ _).length<=_
   have h2:toT (BG rs (t:Int) c) c hi<=(BG rs (t:Int) c).length:=od _ _;unfold JF;rw [B4,cG];omega
 · show(bW rs).length<=_
   unfold bW;rw [B4];decide
theorem fC(g:BQ rs)(hn:rs.length<=2000)(q:QM):∀x∈Fe rs q,x.fits:=fun x hx=>by
 unfold Fe at hx;rcases D4.1 hx with rfl|hx
 · exact Sg g hn _ _ _ _
 · split at hx
   · obtain ⟨r,_,rfl⟩:=Bm.1 hx
     exact Sg g hn _ _ _ _
   · cases hx
structure LA(l:List BN):Prop where
 ok:FB l
 len:l.length<=1000
 scan:∀a,a<=l.length->∀q,(CR (BZ (l.take a)) q).length<=100
theorem FB.toB(h:FB l)(m:l.length<=20):LA l:=⟨h,by omega,fun a g q=>pE h m g q⟩
theorem LA.start(h:LA l)(g:a<=l.length)(m:BJ q):Eb q (Fe (BZ (l.take a)) q)=some (Cf (BZ (l.take a)) q):=bZ (h.ok.rows a g).1 (h.ok.rows a g).2 (h.ok.rowsOk a g) m (h.scan a g q)
theorem LA.make_len(h:LA l)(g:a<=l.length)(q:QM):(Fe (BZ (l.take a)) q).length<=101:=by
 have m:=lZ (BZ (l.take a)) q;have h2:=h.scan a g q
 omega
theorem LA.fits(h:LA l)(g:a<=l.length)(q:QM):∀x∈Fe (BZ (l.take a)) q,x.fits:=fC (h.ok.rows a g).1 (h.ok.rows a g).2 q
def oC(l:List BN)(P:Nat)(win:List BN):Prop:=win.length<=P/\win.map BN.pc=((l.take P).drop (P -win.length)).map BN.pc
theorem Rh(l:List BN)(P:Nat):oC l P []:=⟨C0 _,by
 rw [List.drop_eq_nil_of_le (by simp only [C3,KK];omega)]⟩
variable{P:Nat}{r:BN}
theorem ji{W W':List BN}{x:BN}(h:oC l P W)(hx:l[P]?=some x)(g:r.pc=x.pc)(m:J8 W W' r):oC l (P+1) W':=by
 obtain ⟨J,h2⟩:=h;have G:=(BE.1 hx).1
 have I:(l.take P).length=P:=by rw [C3];omega
 unfold oC;rw [Bi hx];rcases m with⟨rfl,B⟩|⟨rfl,B⟩
 · rw [B7,E3,show P+1 -(W.length+1)=P -W.length by omega,gC A1,BW,BW,h2,MD,MD,g]
   exact ⟨by omega,V⟩
 · have e:((W++[r]).drop 1).length=64:=by rw [C2,B7,E3];omega
   have e1:(W++[r]).drop 1=W.drop 1++[r]:=gC A1;have e2:(l.take P++[x]).drop (P+1 -64)=(l.take P).drop (P+1 -64)++[x]:=gC A1
   rw [e,e1,e2,BW,BW,j0,h2,<-j0,ZD,show P -W.length+1=P+1 -64 by omega,MD,MD,g];exact ⟨by omega,V⟩
theorem MW{win:List BN}(h:oC l P win)(m:a<=P)(B:P -a<=win.length):(DD (P:Int) (a:Int) win).map BN.pc=(GK l a P).map BN.pc:=by
 obtain ⟨g,h2⟩:=h;unfold DD GK;rw [show((P:Int) -(a:Int)).toNat=P -a by omega,j0,h2,<-j0,ZD,show P -win.length+(win.length -(P -a))=a by omega,eh]
structure IC(l:List BN)(P:Nat)(c:CZ):Prop where
 ok:c.ok
 pos:c.pos=(P:Int)
 le:P<=l.length
 win:oC l P c.win
 src:∀x∈c.its,∃a:Nat,x.base=(a:Int)/\a<=l.length/\x.L=Fe (BZ (l.take a)) x.q
theorem IC.at{l:List BN}(K:LA l){P:Nat}{c:CZ}(h:IC l P c){x:ItM}(hx:x∈c.its):∃a:Nat,x.base=(a:Int)/\a<=l.length/\x.L=Fe (BZ (l.take a)) x.q/\(a<=P->P -a<=c.win.length/\x.res=Cf (BZ (l.take P)) x.q/\vI x.q l a (P -a) x.since/\FY x.q (a:Int) 0 (Cf (BZ (l.take a)) x.q,(a:Int)) (GK l a P)=some (x.res,x.since))/\(P<=a->x.res=Cf (BZ (l.take a)) x.q/\x.since=(a:Int)):=by
 obtain ⟨a,I,h2,J⟩:=h.src x hx;have B:=h.ok.all x hx
 obtain ⟨W,m,g⟩:=B.run;rw [J,K.start h2 B.q]at m;injection m with m
 subst m;have G:=B.reach
 rw [h.pos,I]at g G;refine ⟨a,I,h2,J,fun O=>?_,fun O=>?_⟩
 · have e:=MW h.win O A1
   rw [Oc e]at g;have U:=h.le
   obtain ⟨e1,e2⟩:=Pq B.q K.ok h2 (P -a) A1 _ g;rw [show a+(P -a)=P by omega]at e1;exact ⟨by omega,e1,e2,g⟩
 · rw [LQ A1]at g
   injection g with g
   exact ⟨(congrArg Prod.fst g).symm,(congrArg Prod.snd g).symm⟩
variable{b:Bool}
theorem IC.put(h:IC l P c)(G:d.ok)(g:c.like d){tn:Int}(B:a<=l.length){R:CE×Int×Bool}(m:q7 c d q tn (a:Int) (Fe (BZ (l.take a)) q) R b):IC l P d:=by
 refine ⟨G,g.pos.trans h.pos,h.le,by rw [g.win];exact h.win,fun x hx=>?_⟩;rcases m with⟨_,rfl,_⟩|⟨_,_,_,⟨rfl,_⟩|⟨_,y,e,e1,e2,e3,_⟩⟩
 · exact h.src x hx
 · exact h.src x hx
 · rw [e]at hx
   rcases B9.1 hx with hx|hx
   · exact h.src x (FA.1 hx).1
   · rw [BT.1 hx,e1,e2,e3];exact ⟨a,rfl,B,rfl⟩
variable{q2:Option Addr}{cap2:Nat}{zs:List ByteArray}
theorem IC.apply(I:LA l)(h:IC l P c)(m:l[P]?=some r)(g:H8 c d r.p r.cs q2 cap2 zs):IC l (P+1) d:=by
 have J:=(BE.1 m).1;have B:=(I.ok P r m).1.pos
 refine ⟨g.ok,by rw [g.pos,B];push_cast;rfl,by omega,ji (r:=⟨r.p,q2,cap2,r.cs⟩) h.win m rfl g.win,fun y hy=>?_⟩;obtain ⟨_,x,hx,hc,_⟩:=g.i1 y hy;obtain ⟨_,_,e1,_,e2,_,_,G⟩:=Gz hc;rw [e1,e2,G];exact h.src x hx
theorem IC.next(m:LA l)(h:IC l P c)(B:l[P]?=some r):EJ r.p r.cs/\r.p=c.pos+1:=by
 have g:=(m.ok P r B).1;exact ⟨g.ok,by rw [g.pos,h.pos]⟩
theorem IC.part(h:IC l P c)(m:d.ok)(g:c.like d)(B:∀x∈d.its,x∈c.its):IC l P d:=⟨m,g.pos.trans h.pos,h.le,by rw [g.win];exact h.win,fun x hx=>h.src x (B x hx)⟩
theorem aP(lt:Int->Int->Bool):∀(ms:List Int) (r:CE),(ms.foldl (fun r n=>(⟨r.rows,if !r.fnd||lt n r.val then n else r.val,true⟩:CE)) r).rows=r.rows
 |[],_=>rfl
 |n::ms,r=>by rw [Tl,aP lt ms]
theorem nM(rs:List AV)(q:QM):(Cf rs q).rows.length<=2*(CR rs q).length:=by
 have g:=TS q (CR rs q) (IR rs q.ot);have hx:∀lt ms,(EW lt ms).rows=[]:=fun lt ms=>aP lt ms CE.none
 unfold Cf FQ;split;· exact C0 _
 · split
   · exact C0 _
   · split
     · rw [hx];exact C0 _
     · split
       · rw [hx];exact C0 _
       · split
         · exact g
         · show(CR rs q).length<=_;omega
variable{n:Nat}
theorem YY(J:LA l)(h:IC l P c)(O:BJ q)(G:a<=l.length)(hn:∀b,b<=l.length->(Cf (BZ (l.take b)) q).rows.length<=n)(B:(c.pos -(a:Int)).toNat<=c.win.length):(BC q (Cf (BZ (l.take a)) q) (a:Int) (DD c.pos (a:Int) c.win)).1.rows.length<=n:=by
 cases hr:(BC q (Cf (BZ (l.take a)) q) (a:Int) (DD c.pos (a:Int) c.win)).2.2 with
 |false=>
  have g:BC q (Cf (BZ (l.take a)) q) (a:Int) (DD c.pos (a:Int) c.win)=(CE.none,0,false):=by
   unfold BC at hr⊢;split at hr;· cases hr
   · rfl
  rw [g];exact C0 _
 |true=>
  have g:=Lj hr;rw [h.pos]at g B⊢;by_cases m:a<=P
  · rw [Oc (MW h.win m A1)]at g
    have K:=h.le;have h2:=(Pq O J.ok G (P -a) A1 _ g).1
    have I:(BC q (Cf (BZ (l.take a)) q) (a:Int) (DD (P:Int) (a:Int) c.win)).1=_:=h2;rw [I];exact hn _ A1
  · rw [LQ A1]
    exact hn a G
def Reach(l:List BN)(P:Nat)(c:CZ)(q:QM)(a:Nat):Prop:=P -a<=c.win.length/\∃st,FY q (a:Int) 0 (Cf (BZ (l.take a)) q,(a:Int)) (GK l a P)=some st
theorem VJ(h:P<=a):Reach l P c q a:=⟨by omega,(Cf (BZ (l.take a)) q,(a:Int)),by
 rw [show GK l a P=[] by unfold GK;rw [show P -a=0 by omega,ID]];rfl⟩
def oG(l:List BN)(P:Nat)(c d:CZ)(q:QM)(tn:Int)(a:Nat)(n:Nat)(b:Bool):Prop:=
 (b=false/\d=c/\¬Reach l P c q a)\/
 (b=true/\Reach l P c q a/\(∀e∈d.PL,e∈c.PL\/e.sz<=1+(n:Int))/\
   ((d=c/\∃x∈c.its,x.key=str (Ci q)/\(a:Int)<=x.base)\/
    ((∀x∈c.its,x.key=str (Ci q)->x.base<(a:Int))/\∃y:ItM,d.its=(c.its.filter fun x=>x.key≠str (Ci q))++[y]/\y.q=q/\y.base=(a:Int)/\((y.tn=tn/\∀x∈c.its,x.key≠str (Ci q))\/∃x∈c.its,x.key=str (Ci q)/\y.tn=x.tn))))
theorem VK(h:IC l P c):((c.pos -(a:Int)).toNat<=c.win.length/\(BC q (Cf (BZ (l.take a)) q) (a:Int) (DD c.pos (a:Int) c.win)).2.2=true)↔Reach l P c q a:=by
 rw [h.pos];unfold Reach;rw [show((P:Int) -(a:Int)).toNat=P -a by omega];by_cases g:P -a<=c.win.length
 · have e:FY q (a:Int) 0 (Cf (BZ (l.take a)) q,(a:Int)) (DD (P:Int) (a:Int) c.win)=FY q (a:Int) 0 (Cf (BZ (l.take a)) q,(a:Int)) (GK l a P):=by
    by_cases B:a<=P
    · exact Oc (MW h.win B g)
    · rw [LQ A1,show GK l a P=[] by unfold GK;rw [show P -a=0 by omega,ID]]
   unfold BC;rw [e];constructor
   · rintro ⟨_,h2⟩
     refine ⟨g,?_⟩;split at h2;· rename_i st h3;exact ⟨st,h3⟩
     · cases h2
   · rintro ⟨_,st,h2⟩
     rw [h2];exact ⟨g,V⟩
 · exact ⟨fun m=>absurd m.1 g,fun m=>absurd m.1 g⟩
theorem zY(g:LA l)(h:IC l P c)(I:BJ q)(hk:k<c.ns)(U:k<=1000000)(m:a<=l.length){pg:Option Addr}{cg:Nat}(hL:Fu ME (.slice pg (Fe (BZ (l.take a)) q).length cg) (Fe (BZ (l.take a)) q))(Z:c.next<1000000000)(B:c.its.length<500)(hn:∀b,b<=l.length->(Cf (BZ (l.take b)) q).rows.length<=n)(ax:1+(n:Int)<=c.z.fr)(J:TypeId)(zp:Nat×Nat):
 Ba prog 10 #[.pointer (some ⟨c.cp,0,none⟩),.agg #[I4 q.kd,I4 q.tb,I4 q.cl,I4 q.lo,I4 q.hi,I4 q.bq,I4 q.ot,I4 (k:Int),I4 (a:Int),.slice pg (Fe (BZ (l.take a)) q).length cg]] [c.mem,ME,[(1,.cells (Lib.pow10Tab.map fun z=>Value.int .u64 z).toArray J zp)]] (fun w H'=>∃(b:Bool) (d:CZ),w= .bool b/\IC l P d/\c.like d/\(c.next<=d.next/\d.next<=c.next+1)/\oG l P c d q (k:Int) a n b/\H'=[d.mem,ME,[(1,.cells (Lib.pow10Tab.map fun z=>Value.int .u64 z).toArray J zp)]]):=by
 have W:=g.len;refine (vn h.ok I hk U (a:Int) ⟨by omega,by omega⟩ hL (by have:=g.make_len m q;omega) (g.fits m q) (g.start m I) Z B (fun af=>by have:=YY g h I m hn af;omega) J zp).mono ?_;rintro w H' ⟨b,d,rfl,hd,G,X,hP,rfl⟩;refine ⟨b,d,V,h.put hd G m hP,G,X,?_,V⟩;rcases hP with⟨K,h2,O⟩|⟨K,h2,O,h4⟩
 · exact .inl ⟨K,h2,fun h9=>O ((VK h).2 h9)⟩
 · refine .inr ⟨K,(VK h).1 h2,fun e he=>(O e he).imp id fun h9=>by have:=YY g h I m hn h2.1;omega,?_⟩
   rcases h4 with h4|⟨h4,y,e1,e2,e3,_,_,_,e4⟩
   · exact .inl h4
   · exact .inr ⟨h4,y,e1,e2,e3,e4⟩
theorem fI(B:LA l)(h:IC l P c)(G:l[P]?=some r)(J:Ck ME (.slice r.q r.cs.length r.cap) r.cs):Ba prog 12 #[.pointer (some ⟨c.cp,0,none⟩),.agg #[I4 r.p,.slice r.q r.cs.length r.cap]] [c.mem,ME] (fun w H'=>∃(d:CZ) (q2:Option Addr) (cap2:Nat) (zs:List ByteArray) (tv:Value) (s:List AA),w= .tuple #[tv,I4 0]/\IC l (P+1) d/\H8 c d r.p r.cs q2 cap2 zs/\Row 9 tv (zs.map Value.string) s/\H'=[d.mem,ME,s]):=by
 obtain ⟨I,h2⟩:=h.next B G;refine (zn h.ok J I h2).mono ?_;rintro w H' ⟨d,q2,cap2,zs,tv,s,rfl,m,g,rfl⟩;exact ⟨d,q2,cap2,zs,tv,s,V,h.apply B G m,m,g,V⟩
theorem X7{p:Option Addr}(h:EZ M (.slice p l.length cap) l)(G:l[i]?=some r):Ck M (.slice r.q r.cs.length r.cap) r.cs/\∃g off cur T zz,p=some ⟨g,off,none⟩/\(g,Obj.cells cur T zz)∈M/\off+i*2+2<=cur.size/\cur.extract (off+i*2) (off+i*2+2)=#[I4 r.p,.slice r.q r.cs.length r.cap]:=by
 obtain ⟨I,m,e,_,B⟩:=h;injection e with e1 e2 e3
 subst e1 e3;exact B i r G
theorem Xt(g:1<=q.kd/\q.kd<=4)(r:CE)(cs:List Chg):(BX q r cs).2.2=true:=by
 obtain ⟨B,m⟩:=SF g cs r;unfold BX;rw [m]
theorem sH{K:ByteArray}(g:∀k,k∈zs↔k=K)(h2:zs.Nodup):zs=[K]:=by
 cases zs with
 |nil=>exact absurd ((g K).2 rfl) B0
 |cons a l=>
  have m:=(g a).1 (E4 ..);subst m;cases l with
  |nil=>rfl
  |cons b l=>
   have B:=(g b).1 B0;subst B;simp at h2
variable{e:TypeId}{xs:List Value}{s:List AA}
theorem wP(h:Row e v xs s)(hx:0<xs.length):∃g cap cur z,v=I6 g xs.length cap/\s=[(g,.cells cur e z)]/\xs.length<=cur.size/\∀i,i<xs.length->cur[i]?=xs[i]?:=by
 rcases h with⟨_,h0,_⟩|⟨g,cap,cur,z,rfl,rfl,h1,h2,h3,h4,h5⟩
 · rw [h0]at hx;cases hx
 · refine ⟨g,cap,cur,z,rfl,rfl,by omega,fun i hi=>?_⟩
   have h:=congrArg (fun l=>l[i]?) h4;simp only [HC,AM hi]at h;simpa using h
theorem YQ(g:Nat)(v:Value):Row e (I6 g 1 1) [v] [(g,.cells #[v] e (0,0))]:= .inr ⟨g,1,#[v],(0,0),rfl,rfl,CM 1,by decide,rfl,rfl,BB _⟩
theorem wE(h:c.okb)(B:c.ns=1)(hi:c.its=[x])(G:∀e∈c.PL,e.sz<=1):FX c.PL ((0:Nat):Int)=1:=by
 have h2:(c.PL.map (·.key)).Perm (c.its.map ItM.key):=(RE h.pool.keys h.its.keys).2 h.pk;have m:=h2.length_eq
 rw [B4,B4,hi]at m
 match hP:c.PL,m with
 |[e],_=>
  have g:e∈c.PL:=by rw [hP];simp
  have I:=h.pool.te e g;have J:=h.pool.sz e g
  have K:=G e g;unfold FX;rw [MD,List.sum_singleton,AM A1];omega
def exD(k a b:Int):Chg:=⟨0,k,false,⟨0,0,0⟩,true,⟨a,b,7⟩⟩
def aS(p1 p2:Option Addr):List BN:=[⟨1,p1,1,[exD 5 10 2]⟩,⟨2,p2,1,[exD 6 11 9]⟩]
theorem wy{k a b:Int}(g:1<=p/\p<=10000)(h:(exD k a b).ok):EJ p [exD k a b]:=⟨g,⟨CM _,by show 1<=8;decide⟩,fun i c hc=>by
 match i,hc with
 |0,hc=>injection hc with hc;rw [<-hc];exact h
 |i+1,hc=>simp at hc,fun i b c m hc=>by simp at hc⟩
theorem jT{k a b:Int}(m:1<=p+1/\p+1<=10000)(h:(exD k a b).ok)(g:GR rs (exD k a b))(hz:Gr rs [exD k a b]<=2000):KU rs p (p+1) [exD k a b]:=⟨wy m h,rfl,fun c hc=>by rw [BT.1 hc];exact g,hz⟩
def exS:Nat->List AV
 |0=>[]
 |1=>[⟨0,5,⟨10,2,7⟩⟩]
 |_=>[⟨0,5,⟨10,2,7⟩⟩,⟨0,6,⟨11,9,7⟩⟩]
theorem WA(g m:Option Addr):BZ ((aS g m).take 0)=exS 0/\BZ ((aS g m).take 1)=exS 1/\BZ ((aS g m).take 2)=exS 2:=⟨rfl,by kernel_rfl,by kernel_rfl⟩
theorem xy(m B:Option Addr):FB (aS m B):=fun i r g=>by
 obtain ⟨h0,G,_⟩:=WA m B
 match i,g with
 |0,g=>injection g with g;subst g;rw [h0];exact ⟨jT (p:=0) AH AH (by unfold GR;decide) AH,by show 1<=3;decide⟩
 |1,g=>injection g with g;subst g;rw [G];exact ⟨jT (p:=1) AH AH (by unfold GR;decide) AH,by show 1<=3;decide⟩
 |i+2,g=>simp [aS]at g
structure qT(l:List BN):Prop where
 b:LA l
 len:l.length=2
 e2:(Cf (BZ (l.take 2)) exQ).val=2
 e1:(Cf (BZ (l.take 1)) exQ).val=1
 two:∃r,l[1]?=some r/\(∃ch∈r.cs,Cq exQ ch=true)/\Rk exQ r=true
theorem U3(rs:List AV):(Cf rs exQ).rows=[]:=rfl
theorem uN(g m:Option Addr):qT (aS g m):=by
 obtain ⟨_,B,h2⟩:=WA g m;refine ⟨(xy g m).toB (by show 2<=20;decide),rfl,by rw [h2];decide,by rw [B];decide,_,rfl,⟨exD 6 11 9,.head _,by decide⟩,?_⟩;exact (by decide:[exD 6 11 9].any (Dh exQ)=true)
theorem Vx(hi:c.its=[])(g:c.PL=[]){tn:Int}(B:P<=a)(m:oG l P c d q tn a n b):b=true/\∃y:ItM,d.its=[y]/\y.q=q/\y.key=str (Ci q)/\y.base=(a:Int)/\∀e∈d.PL,e.sz<=1+(n:Int):=by
 rcases m with⟨_,_,h⟩|⟨h1,_,h2,⟨_,x,hx,_⟩|⟨_,y,h3,h4,h5,_⟩⟩
 · exact absurd (VJ B) h
 · rw [hi]at hx;cases hx
 · refine ⟨h1,y,by rw [h3,hi];rfl,h4,by unfold ItM.key;rw [h4],h5,fun e G=>?_⟩
   rcases h2 e G with h9|h9
   · rw [g]at h9;cases h9
   · exact h9
theorem YP(h:Row e v xs s)(hn:xs.length=n)(h0:0<n):∃g cap cur z,v=I6 g n cap/\s=[(g,.cells cur e z)]/\n<=cur.size/\∀i,i<n->cur[i]?=xs[i]?:=by
 subst hn;exact wP h h0
theorem iY(h:Row e v xs s)(hn:xs.length=n):∃p cap,v= .slice p n cap:=by
 subst hn;obtain ⟨p,cap,h⟩:=h.form;exact ⟨p,cap,h⟩
theorem yu(g:H8 c d p cs q2 cap2 zs){y:ItM}(hi:c.its=[y])(B:UJ cs y)(m:y.base<p):zs=[y.key]:=sH (fun k=>by
 rw [g.z1,hi];constructor;· rintro ⟨x,hx,rfl,_⟩;rw [BT.1 hx]
 · rintro rfl;exact ⟨y,by simp,rfl,B,m⟩) g.z2
theorem vT(g:H8 c d p cs q2 cap2 zs)(m:∀x∈c.its,p<=x.base):zs=[]:=ka.2 fun k B=>by
 obtain ⟨x,hx,_,_,h⟩:=(g.z1 k).1 B;have:=m x hx
 omega
theorem jM(J:H8 c d p cs q2 cap2 zs){y:ItM}(hi:c.its=[y])(W:p -64<=y.base)(X:1<=y.q.kd/\y.q.kd<=4):∃m,d.its=[m]/\m.q=y.q/\m.key=y.key/\m.base=y.base:=by
 obtain ⟨m,G,hc⟩:=J.i2 y (by rw [hi];simp) W fun _ _=>Xt X _ _;have K:=J.ok.its.keys
 have g:∀w∈d.its,w=m:=fun w O=>by
  obtain ⟨_,x,hx,B,_⟩:=J.i1 w O;rw [hi]at hx;rw [BT.1 hx]at B;exact GI K O G ((Ie B).trans (Ie hc).symm)
 obtain ⟨_,_,e1,_,e2,_⟩:=Gz hc;refine ⟨m,?_,e1,Ie hc,e2⟩;have I:=K
 match hE:d.its,G,I with
 |[w],_,_=>rw [g w (by rw [hE];simp)]
 |w::w2::L,_,I=>
  have U:=g w (by rw [hE];simp);have h2:=g w2 (by rw [hE];simp)
  rw [U,h2]at I;simp at I
theorem ai{g:Nat}{T:TypeId}{z:Nat×Nat}{cur:Array Value}{c:Chg}(B:(g,Obj.cells cur T z)∈M)(G:10<=cur.size)(m:cur.extract 0 10=c.A57):Ck M (I6 g [c].length 1) [c]:=⟨_,_,rfl,by show 1<=maxLen;decide,fun i x hx=>by
 match i,hx with
 |0,hx=>injection hx with hx;subst hx;exact ⟨g,0,cur,T,z,rfl,B,by omega,by simpa using m⟩
 |i+1,hx=>simp at hx⟩
theorem uM(G I B:Nat):∃(l:List BN) (M:List AA),M=[(G,Obj.cells #[I4 0,I4 5,.bool false,I4 0,I4 0,I4 0,.bool true,I4 10,I4 2,I4 7] 62 (0,0))]++([(I,Obj.cells #[I4 0,I4 6,.bool false,I4 0,I4 0,I4 0,.bool true,I4 11,I4 9,I4 7] 62 (0,0))]++[(B,Obj.cells #[I4 1,I6 G 1 1,I4 2,I6 I 1 1] 50 (0,0))])/\qT l/\EZ M (I6 B l.length 2) l:=by
 refine ⟨aS (some ⟨G,0,none⟩) (some ⟨I,0,none⟩),_,V,uN _ _,⟨_,_,V,⟨by show 2<=maxLen;decide,CM _⟩,fun i r m=>?_⟩⟩
 match i,m with
 |0,m=>injection m with m;subst m;exact ⟨ai (g:=G) (c:=exD 5 10 2) (.head _) AH rfl,B,0,_,_,_,rfl,.tail _ (.tail _ (.head _)),cU rfl,rfl⟩
 |1,m=>injection m with m;subst m;exact ⟨ai (g:=I) (c:=exD 6 11 9) (.tail _ (.head _)) AH rfl,B,0,_,_,_,rfl,.tail _ (.tail _ (.head _)),cU rfl,rfl⟩
 |i+2,m=>simp [aS]at m
set_option maxHeartbeats 4000000 in
theorem zK(Tg:TypeId)(zg:Nat×Nat)(Tp:TypeId)(zp:Nat×Nat):BH prog 4 #[] [[(4,.cells (Et.map Cs).toArray Tg zg)],[(1,.cells (Lib.pow10Tab.map fun z=>Value.int .u64 z).toArray Tp zp)]] (.bool true):=by
 have hml:=mL;refine Se func4 ntmps4 [] ?_;intro u R;refine A0<|A3 Y<|A0<|Zv (BM (vs:=[(0,_),(1,_),(2,_)]) (cs:=#[_,_,_]) Y (Da cM HP A4 V))<|Zv (BM (vs:=[(1,I4 5),(4,.bool true),(5,.agg #[I4 10,I4 2,I4 7])]) (cs:=#[I4 0,I4 5,.bool false,I4 0,I4 0,I4 0,.bool true,I4 10,I4 2,I4 7]) Y (AZ (pl:=#[(0,1),(1,1),(2,1),(3,3),(6,1),(7,3)]) Ln B8 (fun _=>by kernel_rfl) A6))<|Ze (Ah (vs:=[_]) (cs:=[_,_,_,_,_,_,_,_,_,_]) G1 C1 Ln Y V rfl V rfl V)<|AE fun g1=>Zv (BM (vs:=[(0,_),(1,_)]) (cs:=#[_,_]) Y (AZ (pl:=#[(0,1),(1,1)]) Sx G3 (fun _=>by kernel_rfl) V))<|Zv (BM (vs:=[(0,_),(1,_),(2,_)]) (cs:=#[_,_,_]) Y (Da cM HP A4 V))<|Zv (BM (vs:=[(1,I4 6),(4,.bool true),(5,.agg #[I4 11,I4 9,I4 7])]) (cs:=#[I4 0,I4 6,.bool false,I4 0,I4 0,I4 0,.bool true,I4 11,I4 9,I4 7]) Y (AZ (pl:=#[(0,1),(1,1),(2,1),(3,3),(6,1),(7,3)]) Ln B8 (fun _=>by kernel_rfl) A6))<|Ze (Ah (vs:=[_]) (cs:=[_,_,_,_,_,_,_,_,_,_]) G1 C1 Ln Y V rfl V rfl V)<|AE fun g2=>Zv (BM (vs:=[(0,_),(1,_)]) (cs:=#[_,_]) Y (AZ (pl:=#[(0,1),(1,1)]) Sx G3 (fun _=>by kernel_rfl) V))<|Ze (Ah (vs:=[_,_]) (cs:=[_,_,_,_]) Fo F0 Sx Y V rfl V rfl V)<|AE fun g0=>A3 Y<|Zq<|CK (s1:=[(g2,Obj.cells #[I4 0,I4 6,.bool false,I4 0,I4 0,I4 0,.bool true,I4 11,I4 9,I4 7] 62 (0,0))]) (s2:=[(g0,Obj.cells #[I4 1,I6 g1 1 1,I4 2,I6 g2 1 1] 50 (0,0))]) Wo Wo ?_;refine CK (s1:=[(g1,Obj.cells #[I4 0,I4 5,.bool false,I4 0,I4 0,I4 0,.bool true,I4 10,I4 2,I4 7] 62 (0,0))]) (s2:=([(g2,Obj.cells #[I4 0,I4 6,.bool false,I4 0,I4 0,I4 0,.bool true,I4 11,I4 9,I4 7] 62 (0,0))]++[(g0,Obj.cells #[I4 1,I6 g1 1 1,I4 2,I6 g2 1 1] 50 (0,0))])) Wo Wo ?_;obtain ⟨l,M,hM,hx,p9⟩:=uM g1 g2 g0;rw [<-hM];have y9:=hx.len
 rw [show(Value.slice (some ⟨g0,0,none⟩) 2 2:Value)=I6 g0 l.length 2 by rw [y9]];obtain ⟨r2,K,vo,FT⟩:=hx.two;obtain ⟨X,gm,offm,curm,Tm,zm,qo,ql,hszm,Z⟩:=X7 p9 K;injection qo with qo
 injection qo with hpm1 hpm2 _
 subst hpm1 hpm2;refine Zg<|Zv (BM (vs:=[(0,I4 3),(2,I4 1),(3,I4 10),(4,I4 19)]) (cs:=#[I4 3,I4 0,I4 1,I4 10,I4 19,I4 0,I4 0]) Y (AZ (pl:=#[(0,1),(1,1),(2,1),(3,1),(4,1),(5,1),(6,1)]) Mn CC (fun _=>by kernel_rfl) A6))<|Ze (Al Mn #[_,_,_,_,_,_,_])<|AE fun bq=>Xe (Xw C7 #[I4 3,I4 0,I4 1,I4 10,I4 19,I4 0,I4 0])<|Z0<|Zn [1,2] ?_;refine Zx<|A0<|Zo Wh (A9 (cs:=#[_,_,_,_,_,_,_]) Dd C7 Y AH (BK V))<|Xr [_] Y call7 Y V (Kg exQ Tx Tp zp)<|Zm Y<|Zd Y V<|Zd Y V<|Za Y<|A3 Y<|A0<|Ze (Ah (vs:=[_]) (cs:=[_]) Cl A4 H4 Y V rfl V rfl V)<|AE fun gs=>Zc [_,_,_] Y call9 Y V (pL (sh:=[5]) (YQ gs (I4 5)) 1 10 AH AH AH AH AH) ?_;rintro _ _ ⟨_,⟨c0,rfl,MS,⟨O,kv,Y2⟩,Ps,zf,l9,W,rfl⟩,rfl⟩;have L0:IC l 1 c0:=⟨MS,Ps,by omega,by rw [Y2];exact Rh l 1,fun x G=>by rw [O]at G;cases G⟩
 refine Zm Y<|Zd Y V<|Zd Y V<|Za Y<|AG Y<|Zn [1,2,3,5,6] ?_;refine Zx<|A0<|Ze (Ah (vs:=[_]) (cs:=[_]) Cl A4 H4 Y V rfl V rfl V)<|AE fun MJ=>Xr [_,_,_] Y call9 Y V (uX (-1) 10 (I6 MJ 1 1) AH)<|Zm Y<|Zd Y V<|Zd Y V<|Za Y<|A3 Y<|Zq<|A0<|Zm Y<|Zv (Be O2 Y Y)<|Zm Y<|Af (t:=55) Y V (fun k1=>by cases k1)<|fun k1=>Zf Y Y<|Yg (Dp (n:=0) Y Y)<|Zv (AL Y Y)<|Zm Y<|Aj (t:=59) Y V (fun k2=>?_) (fun k2=>?_);·
  exact absurd V k2
 refine Zf Y Y<|Yg (Dp (n:=180) Y Y)<|Zv (AL Y Y)<|Z0<|Zn [1,2,3,5,62] ?_;refine Zx<|Aq Y (fun k3=>?_) (fun k3=>?_);·
  exact absurd V k3
 refine AC<|Zx<|A0<|Zm Y<|Zm Y<|Zo Wh (A9 (cs:=#[_,_,_,_,_,_,_]) Dd C7 Y AH (BK V))<|Zc [_,_,_,_] Y call11 Y V (XZ p9 hx.b.ok A1 1 A1 Tx (hx.b.scan 1 A1 exQ) 0 Tg zg) ?_;rintro _ _ ⟨_,⟨E1,pg1,cg1,sw,rfl,rfl⟩,rfl⟩;have ic:1+((0:Nat):Int)<=c0.z.fr:=by
  have h9:=X0 L0.ok.tookb (B:=0) (by rw [kv];simp);rw [O,W]at h9;simp at h9⊢;omega
 refine Zc [_,_] Y call10 Y rfl (zY hx.b L0 Tx (k:=0) (by rw [l9];decide) AH (a:=1) A1 sw (by have:=zf;omega) (by rw [O];decide) (n:=0) (fun b hb=>by rw [U3];decide) ic Tp zp) ?_;rintro _ _ ⟨_,⟨b1,c1,rfl,L1,bn,hnn1,MK,rfl⟩,rfl⟩;obtain ⟨rfl,y1,gB,gF,qj,ek,hsz1⟩:=Vx O kv A1 MK;rw [<-bn.cp];have yt:c1.ns=1:=bn.ns.trans l9
 have pq:c1.z.cap=10:=bn.cap.trans W;have hnx1:c1.next<=11:=by omega
 refine A3 Y<|A0<|Zm Y<|Zm Y ?_;have af:=RQ L1.ok (x:=y1) (by rw [gB];simp) (by rw [ek,L1.pos];omega)
 rw [qj]at af;refine Zc [_,_] Y call13 Y V (af) ?_;rintro _ _ ⟨_,⟨z1,l1,s1,Gl,hpc1,hzo1,rfl,rfl⟩,rfl⟩;obtain ⟨a1,e11,e12,e13,e14,MB⟩:=L1.at hx.b (x:=y1) (by rw [gB];simp);obtain rfl:a1=1:=by omega
 have Rl:z1.a.res.val=1:=by rw [Gl];show y1.res.val=1;rw [(MB A1).1,gF];exact hx.e1
 have Qe:z1.a.until_=1:=by rw [Gl];show c1.pos=1;rw [L1.pos];rfl
 refine Zm Y<|Zd Y V<|Zd Y V<|Ze (Al L7 #[_,_,_,_,_,_,_,_,_,_,_,_,_,_,_])<|AE fun ba=>Xe (Xw HJ z1.A60)<|AG Y<|Zn [1,2,3,5,9,10,11] ?_;refine Zx<|A0<|Zm Y<|Zm Y<|Bb (Ac (j:=1) Fo F0 Y Y A1)<|CS (I1 Wo (ql)) (A9 (cs:=#[_,_]) HX F0 Y A1 Z) V rfl<|Zc [_,_] Y call12 Y V (fI hx.b L1 K X) ?_;rintro _ _ ⟨_,⟨c2,q22,LP,zs2,tv2,sT2,rfl,L2,U,o9,rfl⟩,rfl⟩;have m:r2.p=c1.pos+1:=(L1.next hx.b K).2
 rw [L1.pos]at m;have Hf:zs2=[y1.key]:=yu U gB (by unfold UJ;rw [gF];exact vo) (by rw [ek,m];omega)
 rw [Hf,qj]at o9;obtain ⟨gt,capt,qy,zt,rfl,rfl,hszt,P7⟩:=YP o9 (n:=1) rfl AH;have sO:qy[0]?=some (.string (str (Ci exQ))):=P7 0 AH
 rw [<-U.cp];obtain ⟨y2,vw,qw,vz,gq⟩:=jM U gB (by rw [ek];omega) (by rw [gF];decide);rw [gF]at qw;rw [qj]at vz;rw [ek]at gq;have za:c2.ns=1:=U.ns.trans yt
 have pz:c2.z.cap=10:=U.cap.trans pq;have hnx2:c2.next<=12:=by rw [U.next];omega
 refine Zm Y<|Zd Y V<|Zd Y V<|Za Y<|A3 Y<|A0<|Zm Y<|Zm Y ?_;have ax:=RQ L2.ok (x:=y2) (by rw [vw];simp) (by rw [gq,L2.pos];omega)
 rw [vz]at ax;refine Zc [_,_] Y call13 Y V (ax) ?_;rintro _ _ ⟨_,⟨z2,l2,s2,qx,zk,hzo2,rfl,rfl⟩,rfl⟩;obtain ⟨a2,e21,e22,e23,MC,e25⟩:=L2.at hx.b (x:=y2) (by rw [vw];simp);obtain rfl:a2=1:=by omega
 obtain ⟨e241,qz,j5,_⟩:=MC A1;have T9:z2.a.res.val=2:=by rw [qx];show y2.res.val=2;rw [qz,qw];exact hx.e2
 have Qd:z2.a.since=2:=by
  rw [qx];show y2.since=2
  rw [qw]at j5;obtain ⟨⟨a1,a2⟩,_,a4⟩:=j5;rcases (by omega:y2.since=2\/y2.since<=1)with h9|h9
  · exact h9
  · have ht:=a4 1 r2 A1 AH K
    rw [FT]at ht;cases ht
 have Pn:z2.a.recs.length=1:=by
  rw [qx];show l2.length=1
  have h9:=congrArg List.length zk;rw [B4,B4,OE (by rw [L2.pos,gq];omega),L2.pos,gq]at h9;omega
 refine Zm Y<|Zd Y V<|Zd Y V<|Ze (Al L7 #[_,_,_,_,_,_,_,_,_,_,_,_,_,_,_])<|AE fun bb=>Xe (Xw HJ z2.A60)<|AG Y<|Zn [1,2,3,5,9,10,11,12,13,14,15] ?_;refine Zx<|A0<|Zm Y<|Zm Y<|Bb (Ac (j:=1) Fo F0 Y Y A1)<|CS (I1 Wo (ql)) (A9 (cs:=#[_,_]) HX F0 Y A1 Z) rfl rfl<|Xr [_,_] Y call12 Y rfl (ZI L2.ok.tookb X (L1.next hx.b K).1 (by rw [m,L2.pos];omega))<|Zm Y<|Zd Y rfl<|Zd Y rfl<|Za Y<|A3 Y<|A0<|Zm Y<|Zc [_,_] Y call15 Y rfl (ze L2.ok 1 AH) ?_;rintro _ _ ⟨_,⟨rfl,c3,P5,sM,⟨g,l8,hw3⟩,zi,d9,cO,J,rfl⟩,rfl⟩;rw [<-sM];have L3:IC l 1 c3:=⟨P5,zi,by omega,by rw [hw3];exact Rh l 1,fun x G=>by rw [g]at G;cases G⟩
 rw [za]at cO;rw [pz]at J;replace d9:c3.next<=13:=by rw [d9];omega
 refine A5<|A0<|Zm Y<|Zc [_] Y call16 Y V (tk L3.ok.tookb) ?_;rintro _ _ ⟨_,⟨zs3,sk3,o8,_,zu,rfl⟩,rfl⟩;rw [g]at o8;have HZ:zs3=[]:=o8.eq_nil
 subst HZ;obtain ⟨pk3,ck3,rfl⟩:=iY zu (n:=0) rfl;refine Zv (AY D2 Y)<|Zv (Cb (n:=0) Y Y)<|Zm Y<|Aj (t:=102) Y V (fun k4=>?_) (fun k4=>?_);·
  refine Zf Y Y<|Xr [_] Y call17 Y V (vq c3) ?_;rw [zi];refine Yg (Cb (n:=1) Y Y)<|Zv (AQ Y Y)<|AG Y<|Zn [1,2,3,5,9,10,11,12,13,14,15,17,18] ?_;refine Zx<|A0<|Zm Y<|Zm Y<|Zo Wh (A9 (cs:=#[_,_,_,_,_,_,_]) Dd C7 Y AH (BK V))<|Zc [_,_,_,_] Y call11 Y V (XZ p9 hx.b.ok A1 2 A1 Tx (hx.b.scan 2 A1 exQ) 0 Tg zg) ?_;rintro _ _ ⟨_,⟨E2,pg2,cg2,sF,rfl,rfl⟩,rfl⟩;have j3:1+((0:Nat):Int)<=c3.z.fr:=by
   have h9:=X0 L3.ok.tookb (B:=0) (by rw [l8];simp);rw [g,J]at h9;simp at h9⊢;omega
  refine Zc [_,_] Y call10 Y rfl (zY hx.b L3 Tx (k:=0) (by rw [cO];decide) AH (a:=2) A1 sF (by have:=d9;omega) (by rw [g];decide) (n:=0) (fun b hb=>by rw [U3];decide) j3 Tp zp) ?_;rintro _ _ ⟨_,⟨b4,c4,rfl,L4,cu,hnn4,MP,rfl⟩,rfl⟩;obtain ⟨rfl,y4,qa,zl,wo,gy,zF⟩:=Vx g l8 A1 MP;rw [<-cu.cp];have zb:c4.ns=1:=cu.ns.trans cO
  have q9:c4.z.cap=10:=cu.cap.trans J;have hnx4:c4.next<=14:=by omega
  refine A3 Y<|A0<|Zm Y<|Zm Y ?_;have ve:=mF L4.ok (x:=y4) (by rw [qa];simp) (by rw [gy,L4.pos];omega)
  rw [wo]at ve;refine Xr [_,_] Y call13 Y V (ve)<|Zm Y<|Zd Y V<|Zd Y V<|Ze (Al L7 #[_,_,_,_,_,_,_,_,_,_,_,_,_,_,_])<|AE fun bc=>Xe (Xw HJ #[I4 0,I4 0,I4 0,I4 0,I4 0,I4 0,I4 0,.slice none 0 0,I4 0,.bool false,I4 0,I4 0,I4 0,.slice none 0 0,.slice none 0 0])<|AG Y<|Zn [1,3,5,9,10,11,12,13,14,15,17,18,19,21] ?_;refine Zx<|A0<|Zm Y<|Zm Y<|Bb (Ac (j:=1) Fo F0 Y Y A1)<|CS (I1 Wo (ql)) (A9 (cs:=#[_,_]) HX F0 Y A1 Z) V rfl<|Zc [_,_] Y call12 Y V (fI hx.b L4 K X) ?_;rintro _ _ ⟨_,⟨c5,q52,Mx,zs5,tv5,sT5,rfl,L5,I,p8,rfl⟩,rfl⟩;have m:r2.p=c4.pos+1:=(L4.next hx.b K).2
  rw [L4.pos]at m;have LD:zs5=[]:=vT I fun x G=>by rw [qa]at G;rw [BT.1 G,gy];omega
  rw [LD]at p8;obtain ⟨pk5,ck5,rfl⟩:=iY p8 (n:=0) rfl;rw [<-I.cp];obtain ⟨y5,qb,zq,wz,pg⟩:=jM I qa (by rw [gy];omega) (by rw [zl];decide);rw [zl]at zq;rw [wo]at wz;rw [gy]at pg;have lw:c5.ns=1:=I.ns.trans zb
  have P6:c5.z.cap=10:=I.cap.trans q9;have hnx5:c5.next<=15:=by rw [I.next];omega
  refine Zm Y<|Zd Y V<|Zd Y V<|Za Y<|A3 Y<|A0<|Zm Y<|Zm Y ?_;have bg:=RQ L5.ok (x:=y5) (by rw [qb];simp) (by rw [pg,L5.pos];omega)
  rw [wz]at bg;refine Zc [_,_] Y call13 Y V (bg) ?_;rintro _ _ ⟨_,⟨z5,l5,s5,Gw,hpc5,hzo5,rfl,rfl⟩,rfl⟩;obtain ⟨a5,e51,e52,e53,e54,ME⟩:=L5.at hx.b (x:=y5) (by rw [qb];simp);obtain rfl:a5=2:=by omega
  have Ta:z5.a.res.val=2:=by rw [Gw];show y5.res.val=2;rw [(ME A1).1,zq];exact hx.e2
  have sJ:z5.a.base=2:=by rw [Gw];show y5.base=2;rw [pg];rfl
  refine Zm Y<|Zd Y V<|Zd Y V<|Ze (Al L7 #[_,_,_,_,_,_,_,_,_,_,_,_,_,_,_])<|AE fun bd=>Xe (Xw HJ z5.A60)<|AG Y<|Zn [3,5,9,10,11,12,13,14,15,17,18,19,21,22,24,25] ?_;refine Zx<|A0<|Zm Y<|Zm Y<|Af (t:=133) Y V (fun g1=>?_) (fun g1=>?_);·
   refine Zf Y Y<|Zv (AQ Y Y)<|Zm Y<|Af (t:=136) Y V (fun g2=>?_) (fun g2=>?_);·
    refine Yf 7 GF V rfl Ax Y<|Yg (Ar (off:=1) CD V rfl A4 Y)<|Yl AD Y<|Yg (CP Y Y)<|Zv (AQ Y Y)<|Zm Y<|Aj (t:=142) Y V (fun g3=>?_) (fun g3=>?_);·
     refine Yf 11 GF V rfl A4 Y<|Yl AD Y<|Yg (CP Y Y)<|Zv (AQ Y Y)<|Zm Y<|Aj (t:=147) Y V (fun g4=>?_) (fun g4=>?_);·
      refine Zf Y Y<|Yg (Cb (n:=0) Y Y)<|Zv (AQ Y Y)<|Zm Y<|Aj (t:=151) Y V (fun g5=>?_) (fun g5=>?_);·
       refine Zf Y Y<|Yg (AY D2 Y)<|Yg (Cb (n:=1) Y Y)<|Zv (AQ Y Y)<|Zm Y<|Aj (t:=156) Y V (fun g6=>?_) (fun g6=>?_);·
        refine Zf Y Y<|Gu Y (BV (j:=0) D2 Fi Y Y X2) rfl rfl ?_;refine Yl HQ Y (hv:=by exact sO)<|Zf Y Y<|Yg (Vf Y Y)<|Zv (AQ Y Y)<|AG Y<|Zn [5,14,15,17,18,19,21,22,24,25,26] ?_;refine Zx<|A0<|Zm Y<|Zm Y<|Af (t:=164) Y V (fun g8=>?_) (fun g8=>?_);·
         refine Yf 7 GF V rfl Ax Y<|Yg (Ar (off:=1) CD V rfl A4 Y)<|Yl AD Y<|Yg (CP Y Y)<|Zv (AQ Y Y)<|Zm Y<|Aj (t:=170) Y V (fun g9=>?_) (fun g9=>?_);·
          refine Yf 10 GF V rfl A4 Y<|Yl AD Y<|Yg (CP Y Y)<|Zv (AQ Y Y)<|Zm Y<|Aj (t:=175) Y V (fun r9=>?_) (fun r9=>?_);·
           refine Yf 14 GF V rfl Lo Y<|Yl T6 Y<|Yg (AY Fo Y)<|Yg (Cb (n:=1) Y Y)<|Zv (AQ Y Y)<|Zm Y<|Aj (t:=181) Y V (fun sj=>?_) (fun sj=>?_);·
            refine Zf Y Y<|Yg (Cb (n:=180) Y Y)<|Zv (AQ Y Y)<|AG Y<|Zn [5,18,19,21,22,24,25,26,27] ?_;refine Zx<|A0<|Zm Y<|Zm Y<|Aj (t:=186) Y V (fun m1=>?_) (fun m1=>?_);·
             refine Zf Y Y<|Zv (AQ Y Y)<|Zm Y<|Aj (t:=189) Y V (fun m2=>?_) (fun m2=>?_);·
              refine Zf Y Y<|Zv (AQ Y Y)<|Zm Y<|Aj (t:=192) Y V (fun m3=>?_) (fun m3=>?_);·
               refine Zf Y Y<|Zv (AQ Y Y)<|Zm Y<|Af (t:=195) Y V (fun m4=>?_) (fun m4=>?_);·
                refine Zf Y Y<|Yg (Br Y)<|Zv (AQ Y Y)<|Zm Y<|Af (t:=199) Y V (fun m5=>?_) (fun m5=>?_);·
                 refine Zf Y Y<|Yg (AY D2 Y)<|Yg (Cb (n:=0) Y Y)<|Zv (AQ Y Y)<|Zm Y<|Aj (t:=204) Y V (fun m6=>?_) (fun m6=>?_);·
                  refine Zf Y Y<|Zv (AQ Y Y)<|Zm Y<|Af (t:=207) Y V (fun m7=>?_) (fun m7=>?_);·
                   refine Yf 7 GF V rfl Ax Y<|Yg (Ar (off:=1) CD V rfl A4 Y)<|Yl AD Y<|Yg (CP Y Y)<|Zv (AQ Y Y)<|Zm Y<|Aj (t:=213) Y V (fun m8=>?_) (fun m8=>?_);·
                    refine Yf 12 GF V rfl A4 Y<|Yl AD Y<|Yg (CP Y Y)<|Zv (AQ Y Y)<|Zm Y<|Aj (t:=218) Y V (fun m9=>?_) (fun m9=>?_);·
                     refine Zf Y Y<|Xr [_,_] Y call18 Y rfl (tj (k:=0) L5.ok.tookb (by rw [lw];decide)) ?_;rw [wE L5.ok.tookb lw qb (fun e he=>zF e (I.PL e he))];refine Yg (Cb (n:=1) Y Y)<|Zv (AQ Y Y)<|AG Y<|Zn [0] ?_;refine Zx<|AJ<|AO V results4 Y (by exact ⟨V,V⟩)
                    exact absurd sJ m9
                   exact absurd Ta m8
                  cases m7
                 exact absurd V m6
                cases m5
               cases m4
              exact absurd V m3
             exact absurd V m2
            exact absurd V m1
           exact absurd Pn sj
          exact absurd Qd r9
         exact absurd T9 g9
        cases g8
       exact absurd V g6
      exact absurd V g5
     exact absurd Qe g4
    exact absurd Rl g3
   cases g2
  cases g1
 exact absurd V k4
def MU(z:Int):Nat:=if z<0 then(-(z+1)).toNat else z.toNat
theorem jb{z:Int}(h:z<0):(-(z+1)).toNat=MU z:=(AM h).symm
theorem ja{z:Int}(h:¬z<0):z.toNat=MU z:=(AK h).symm
def tY(had:Bool)(m:Nat):Bool:=!had||decide (0<m%4)
def vm(m:Nat):V3:=⟨((m/4%10:Nat):Int),((1+m/40%9:Nat):Int),((m/400%40:Nat):Int) -20⟩
def jX(gr:AV×Bool)(n m:Nat):Chg:=⟨((n%3:Nat):Int),((1+n/3%9:Nat):Int),gr.2,gr.1.v,tY gr.2 m,if tY gr.2 m then vm m else V3.zero⟩
def Qr(rs:List AV)(n m:Nat):Chg:=jX (Fq rs ((n%3:Nat):Int) ((1+n/3%9:Nat):Int)) n m
def SA(c y:Chg):Bool:=decide (y.t=c.t/\y.k=c.k)
def FO(cs:List Chg)(c:Chg)(k n:Nat):Prop:=cs.any (SA c)=true\/(c.had=true/\c.has=true/\c.o=c.n)\/(0<k/\n%5=0)
instance(cs:List Chg)(c:Chg)(k n:Nat):Decidable (FO cs c k n):=inferInstanceAs(Decidable (_\/_))
def MN(c y:Chg):Prop:=c.t<y.t\/y.t=c.t/\c.k<y.k
instance(c y:Chg):Decidable (MN c y):=inferInstanceAs(Decidable (_\/_))
def Q5(cs:List Chg)(c:Chg):Nat->Nat
 |0=>0
 |j+1=>match cs[j]?with
  |some y=>if MN c y then Q5 cs c j else j+1
  |none=>j+1
variable{j:Nat}
theorem Yh{c:Chg}(h0:0<j)(hy:cs[j -1]?=some y)(h:MN c y):Q5 cs c j=Q5 cs c (j -1):=by
 obtain ⟨k,rfl⟩:∃k,j=k+1:=⟨j -1,by omega⟩;rw [RR]at hy⊢;rw [Q5,hy];exact AM h
theorem Ye{c:Chg}(h0:0<j)(hy:cs[j -1]?=some y)(h:¬MN c y):Q5 cs c j=j:=by
 obtain ⟨k,rfl⟩:∃k,j=k+1:=⟨j -1,by omega⟩;rw [RR]at hy;rw [Q5,hy];exact AK h
theorem qW{c:Chg}(h0:¬0<j):Q5 cs c j=j:=by
 obtain rfl:j=0:=by omega
 rfl
noncomputable def V4(rs:List AV)(z:List Int)(k:Nat)(cs:List Chg):List Chg:=
 if FO cs (Qr rs (MU (z.getD (2*k) 0)) (MU (z.getD (2*k+1) 0))) k (MU (z.getD (2*k) 0))then cs
 else cs.take (Q5 cs (Qr rs (MU (z.getD (2*k) 0)) (MU (z.getD (2*k+1) 0))) cs.length)++[Qr rs (MU (z.getD (2*k) 0)) (MU (z.getD (2*k+1) 0))]++cs.drop (Q5 cs (Qr rs (MU (z.getD (2*k) 0)) (MU (z.getD (2*k+1) 0))) cs.length)
noncomputable def GJ(rs:List AV)(z:List Int):Nat->List Chg
 |0=>[]
 |k+1=>V4 rs z k (GJ rs z k)
variable{z:List Int}
theorem RY{n:Int}(h:z[i]?=some n):z.getD i 0=n:=by rw [My,h];rfl
theorem KP{m:Nat}{B G:Int}{c:Chg}(g:cs=GJ rs z k)(I:z[2*k]?=some B)(J:z[2*k+1]?=some G)(hn:n=MU B)(K:m=MU G)(hc:c=Qr rs n m)(h:FO cs c k n):cs=GJ rs z (k+1):=by
 subst hn K hc;show _=V4 rs z k (GJ rs z k)
 unfold V4;rw [RY I,RY J,<-g,AM h]
theorem uf{m:Nat}{B G:Int}{c:Chg}(g:cs=GJ rs z k)(I:z[2*k]?=some B)(J:z[2*k+1]?=some G)(hn:n=MU B)(O:m=MU G)(hc:c=Qr rs n m)(h:¬FO cs c k n)(K:Q5 cs c cs.length=j):cs.take j++[c]++cs.drop j=GJ rs z (k+1):=by
 subst hn O hc K;show _=V4 rs z k (GJ rs z k)
 unfold V4;rw [RY I,RY J,<-g,AK h]
def YO(L:List (List Chg)):List AV:=L.foldl DN []
theorem YN(l:List BN):YO (l.map BN.cs)=BZ l:=by unfold YO BZ;rw [List.foldl_map]
noncomputable instance(rs:List AV)(p q:Int)(cs:List Chg):Decidable (KU rs p q cs):=Classical.propDecidable _
noncomputable def Mm(L:List (List Chg))(z:List Int):List (List Chg):=
 if KU (YO L) (L.length:Int) ((L.length:Int)+1) (GJ (YO L) z 3)then L++[GJ (YO L) z 3]else L
noncomputable def TP(xs:List (List Int)):List (List Chg):=xs.foldl Mm []
theorem Vm{xs:List (List Int)}(hz:xs[i]?=some z):TP (xs.take (i+1))=Mm (TP (xs.take i)) z:=by
 unfold TP;rw [PF,hz,Z3];rfl
theorem xD{xs:List (List Int)}{g:List BN}(hz:xs[i]?=some z)(m:g.map BN.cs=TP (xs.take i))(hc:r.cs=GJ (BZ g) z 3)(h:KU (BZ g) (g.length:Int) ((g.length:Int)+1) r.cs):(g++[r]).map BN.cs=TP (xs.take (i+1)):=by
 rw [Vm hz,<-m];unfold Mm;rw [YN,B4,<-hc,AM h,BW];rfl
theorem zZ{xs:List (List Int)}{g:List BN}(hz:xs[i]?=some z)(m:g.map BN.cs=TP (xs.take i))(hc:cs=GJ (BZ g) z 3)(h:¬KU (BZ g) (g.length:Int) ((g.length:Int)+1) cs):g.map BN.cs=TP (xs.take (i+1)):=by
 rw [Vm hz,<-m];unfold Mm;rw [YN,B4,<-hc,AK h]
theorem rn{p:Chg->Bool}{x:Chg}(hx:cs[i]?=some x):(cs.take (i+1)).any p=((cs.take i).any p||p x):=by
 rw [PF,hx,List.any_append];simp
theorem Xu{p:Chg->Bool}{x:Chg}{g:Bool}(hx:cs[i]?=some x)(m:b=(cs.take i).any p)(h:g=(b||p x)):g=(cs.take (i+1)).any p:=by
 rw [rn hx,<-m,h]
end Go.Proofs.YtfhjaegddfehhaaGreatDoor
