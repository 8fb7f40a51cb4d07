/- Apply. -/
import Derived.Test.YthhakdmlpngcmaaGreatDoorCa11
set_option linter.unusedVariables false
set_option linter.unusedSimpArgs false
namespace Go.Proofs.YthhakdmlpngcmaaGreatDoor
open Go.Proofs.Tryz
open Go Go.RowKit Gw
set_option maxRecDepth 100000
attribute [local irreducible] Gw.At Gw.Nx Gw.Ops
theorem Rw{α:Type}{l:List α}(g:l.Nodup){i:Nat}{x:α}(h:l[i]?=some x):x∉l.take i:=fun B=>by
 have h2:l=l.take i++x::l.drop (i+1):=by
  obtain ⟨G,I⟩:=C4.1 h;rw [<-I,<-RW G,K1]
 rw [h2,Ge]at g;exact g.2.2 x B x (E3 ..) V
variable{c:CZ}{p:Int}{qa:B8}{cap:Nat}{cs:List Chg}{ME:List A9}
theorem bP(h:c.ok)(hC:Cv ME (.slice qa cs.length cap) cs)(hR:EK p cs)(hp:p=c.pos+1):BS prog 16 #[.pointer (some ⟨c.cp,0,none⟩),.agg #[I0 p,.slice qa cs.length cap]] [[(c.cp,.cells c.A98 95 (0,0))],c.sW,c.z.S,[(c.mb,.map c.esP c.ckP)],c.su,[(c.ip,.cells #[.map (some c.mq),c.lv] 165 (0,0))],[(c.mq,.map c.esQ c.ckQ)],c.ML,[(c.mi,.map c.esI c.ckI)],[(c.mkb,.map c.esK c.ckK)],c.SI,c.M,c.MR,ME] (fun r H'=>∃(d:CZ) (q2:B8) (cap2:Nat) (zs:List Bm) (tv:A4) (s sM:List A9),r= .tuple #[tv,I0 0]/\H9 c d p cs q2 cap2 zs/\d.M=sM++c.M/\Row 9 tv (zs.map Value.string) s/\H'=[[(d.cp,.cells d.A98 95 (0,0))],d.sW,d.z.S,[(d.mb,.map d.esP d.ckP)],d.su,[(d.ip,.cells #[.map (some d.mq),d.lv] 165 (0,0))],[(d.mq,.map d.esQ d.ckQ)],d.ML,[(d.mi,.map d.esI d.ckI)],[(d.mkb,.map d.esK d.ckK)],d.SI,d.M,d.MR,ME,s]):=by
 have zu:=mL;obtain ⟨p9,zb,e9,zy,zt⟩:=id hC;injection e9 with e91 e92 e93
 subst e91 e93;have FT:=h.pos
 have E9:=hR.pos;have zm:=hR.len
 have Gw:=h.wl;have Gl:=F5 h.win
 have ic:∀ch∈cs,ch.ok:=fun ch ax=>by
  obtain ⟨i,hi⟩:=HB ax;exact hR.all i ch hi
 have sJ:∀x∈c.its.map ItM.iq,BI x.2:=fun y hy=>by
  obtain ⟨x,hx,rfl⟩:=C6.1 hy;exact h.its.q x hx
 have sw:(c.its.map ItM.iq).length<=500:=by rw [B6];exact h.its.len
 refine DT func16 V ntmps16 V ?_;intro u R;refine Zb [0,1] ?_;refine A1<|Ze (Bx #[_])<|AG fun bc=>Ze (Bx #[I0 p,.slice qa cs.length cap])<|AG fun br=>Za Y<|A5 Y<|Zq<|AR<|A1<|Zl Kd Y ?_;refine Zv (Bg SM Y Y)<|A5 Y<|AQ Y (fun gy=>by cases gy)<|fun gy=>Zq<|Aw (n:=14) (0::1::3::7::15::31::15::79::207::463::975::2047::4095::8191::[]) 2 AF AF V<|FF 0 V Wh (AB (cs:=#[_,_]) IH G3 Y B5 (BO V)) ?_;refine Yw 1 3 V (Zu [_] Y call44 Y V (Pq p qa cap cs ME hC)) ?_;rintro _ _ ⟨rfl,rfl⟩;rw [D2 hR];refine A3 2 V (Br Y)<|A3 3 V (AO Y)<|Ce (t:=19) Y (fun g1=>?_) (fun g1=>?_);·
  rw [g1];cases g1
 rw [g1];refine B1 4 V (AA (off:=0) HF V rfl AE Y)<|DP 5 V Wh (BD AH Y Ax) ?_;refine DP 6 V Wh (BD Kd Y Ax) ?_;refine B1 7 V (Ak Y V)<|B1 8 V (AA (off:=0) Ft V rfl AE Y)<|DP 9 V Wh (BD AH Y Ax) ?_
 (refine B1 10 rfl (Ha Y Y (IntWalk.i64_in _ ?_)) ?_;(focus (omega)))
 refine B1 11 V (KI Y Y)<|A3 12 V (AL Y Y)<|A3 13 V (Aq Y)<|Ag<|Zn [2,3,15] ?_;refine Zx<|Av Y (fun h3=>by omega)<|fun h3=>AC<|A8<|Zx<|A1<|Zl Kd Y ?_;refine Zh 0 HF V rfl AE Y<|Zl AH Y ?_;refine Zp Y V<|Zh 0 Ft V rfl AE Y<|Xe (Zs AE Y Y V) ?_;refine A6<|Zq<|Aw (n:=12) (0::0::2::6::14::0::32::96::254::511::1023::2047::[]) 2496 AF AF V<|BE 0 V Kd Y ?_;refine BE 1 V Kd Y ?_;refine A3 2 V (Ak Y V)<|A3 3 V (AA (off:=1) Ft V rfl SZ Y)<|BE 4 V isAgg25 Y ?_;refine FF 5 V Wh (AB (cs:=#[_,_]) IH G3 Y B5 (BO V)) ?_;refine Zz (l:=[6])<|B7 [false,true,true,true] [(4,(_,_)),(1,(_,_)),(0,(_,_))] V rfl (Zw [_] Y call45 Y V (Qr p hC A0)) ?_ Bp Ah;rintro _ _ ⟨_,⟨q2,cap2,s2,rfl,gm,rfl⟩,rfl⟩;refine Bk<|Yz 7 96 255 [4,1,0] [true,true,true] [(4,(_,_)),(1,(_,_)),(0,(_,_))] V Y V rfl V rfl (Ai (vs:=[_]) (cs:=[_,_]) HA G3 Tl Y V rfl V rfl V)<|AG fun gb=>Bk<|Yz 8 254 511 [4,1,0] [false,false,true] [(0,(_,_))] V Y V rfl V rfl (BV (by_:=32) (sz:=2) HA (V:Tryz.prog.info? 57=some Tryz.t57) V rfl V rfl Y (h.win) Y (Db 2 gb 1 1 57 (0,0) [I0 p,.slice q2 cs.length cap2] V) Wo Wo G0 A0 A0) ?_;rintro _ _ ⟨J,Z,rfl⟩;refine ⟨Zk (AY),?_⟩;obtain ⟨U,K,rfl⟩:=Z.form;refine A3 9 V (Ak Y V)<|A3 10 V (AA (off:=1) Ft V rfl SZ Y)<|Zz (l:=[11])<|B7 [false] [] V rfl (Zs SZ Y Y V (hi:=by(simp;done))) ?_ (fun _ _ h=>h.elim) Ah;rintro _ _ ⟨rfl,rfl⟩;refine Bk<|Ag<|Zn [2,3] ?_;refine Zx ?_;have X:=Ba Z (n':=(c.win++[(⟨p,q2,cap2,cs⟩:BR)]).length) (xs':=Dv (c.win++[(⟨p,q2,cap2,cs⟩:BR)])) (by rw [BW];rfl) (by rw [Kk];rfl)
 have B:(c.win++[(⟨p,q2,cap2,cs⟩:BR)]).length=c.win.length+1:=by rw [BW];rfl
 refine Cb (s1:=s2) (s2:=c.M) Wo Wo ?_;refine Zb [2,3] ?_;refine Ch (e0:=[]) (H0:=[[(c.cp,.cells #[I0 p,.slice U (c.win.length+1) K,.pointer (some ⟨c.z.r,0,none⟩),.pointer (some ⟨c.ip,0,none⟩),.map (some c.mi),.map (some c.mkb),I0 c.next] 95 (0,0))],J,(s2++c.M)]) (fun e H=>∃(W:List BR) (wq:B8) (wc:Nat) (sW s0:List A9),(Jn c.win W ⟨p,q2,cap2,cs⟩/\Bc 2 57 (.slice wq W.length wc) W.length (Dv W) sW)/\e=[]/\H=[[(c.cp,.cells #[I0 p,.slice wq W.length wc,.pointer (some ⟨c.z.r,0,none⟩),.pointer (some ⟨c.ip,0,none⟩),.map (some c.mi),.map (some c.mkb),I0 c.next] 95 (0,0))],sW,(s0++(s2++c.M))]) Wp ?hx_6 ?hy_6
 case hx_6=>
  refine A1<|Zl Kd Y ?_;refine Zp Y V<|Zh 1 Ft V rfl SZ Y<|Zl isAgg25 Y ?_;refine Zv (Ab HA Y)<|Zv (DN (n:=64) Y Y)<|A6<|Av Y (fun h6=>?_) (fun h6=>?_);·
   have l8:Ee (J++(s2++c.M)) (.slice U (c.win.length+1) K) (c.win++[(⟨p,q2,cap2,cs⟩:BR)]):=by
    rw [B]at X;rw [<-B];refine K9 (by rw [B];exact X) A0 fun r hr=>?_;rcases C2.1 hr with hr|hr
    · obtain ⟨i,hi⟩:=HB hr
      exact H5 (h.wp i r hi).2.1 s2
    · rw [C5.1 hr];exact Jj gm c.M
   have l9:Ee (J++(s2++c.M)) (.slice (Ec U 1 K 2) c.win.length (K -1)) ((c.win++[(⟨p,q2,cap2,cs⟩:BR)]).drop 1):=by
    rw [<-B]at l8;have h9:=Nc (a:=1) l8 A0
    rwa [B,S2]at h9
   refine Cb (s1:=J) (s2:=(s2++c.M)) Wo Wo ?_;refine Aw (n:=10) (0::0::2::6::14::30::62::127::255::511::[]) 576 AF AF V<|BE 0 V Kd Y ?_;refine BE 1 V Kd Y ?_;refine A3 2 V (Ak Y V)<|A3 3 V (AA (off:=1) Ft V rfl SZ Y)<|BE 4 V isAgg25 Y ?_;refine A3 5 rfl (C8 (l:=1) HA G3 Y Y A0)<|Zz (l:=[6])<|B7 [false,false,true] [(0,(_,_))] rfl rfl (Zw [_] Y call46 Y rfl (IL l9 (by rw [CH];omega))) ?_ Bp Ah;rintro _ _ ⟨_,⟨sR,l5,rfl⟩,rfl⟩;refine ⟨Zk (AY),?_⟩;obtain ⟨gR,cR,rfl⟩:=l5.form;refine A3 7 V (Ak Y V)<|A3 8 V (AA (off:=1) Ft V rfl SZ Y)<|Zz (l:=[9])<|B7 [false] [] V rfl (Zs SZ Y Y V (hi:=by(simp;done))) ?_ (fun _ _ h=>h.elim) Ah;rintro _ _ ⟨rfl,rfl⟩;refine Bk<|Ag<|Zn [2,3] ?_;refine BB (e':=[]) (by exact ⟨(c.win++[(⟨p,q2,cap2,cs⟩:BR)]).drop 1,gR,cR,sR,J,⟨.inr ⟨V,by omega⟩,l5⟩,V,V⟩)
  refine AC<|Zn [2,3] ?_;refine BB (e':=[]) (by exact ⟨c.win++[(⟨p,q2,cap2,cs⟩:BR)],U,K,J,[],⟨.inl ⟨rfl,by omega⟩,by rw [B]at X⊢;exact X⟩,rfl,by rw [B]⟩)
 rintro _ _ ⟨W,wq,wc,sW,s0,⟨gq,sO⟩,rfl,rfl⟩;refine A1<|Ze (Al cV #[_])<|AG fun bt=>A6<|A1<|Zv (Bf (vs:=[]) (us:=[_,_,_]) Y Y)<|A5 Y<|Zq<|Zq<|Aw (n:=8) (0::1::3::7::0::31::63::0::[]) 32 AF AF V<|BE 0 V Kd Y ?_;refine A3 1 V (Ak Y V)<|A3 2 V (AA (off:=3) Ft V rfl sizeOf90 Y)<|BE 3 V isAgg90 Y ?_;refine FF 4 V Wh (AB (cs:=#[_,_]) IH G3 Y B5 (BO V)) ?_;refine A3 7 V (AO Y)<|Zz (l:=[5])<|B7 [false,false,false] [] V rfl (Zw [_,_] Y call50 Y V (gB h.its.idx sJ sw h.its.ist p (MC:=ME) hC A0 ic)) ?_ Bp Ah;rintro _ _ ⟨_,⟨zi,sz,lv2,ML2,o9,y5,Hf,dn,o8,rfl⟩,rfl⟩;refine ⟨AY,?_⟩;obtain ⟨pk,ck,rfl⟩:=dn.form;simp only [B6];rw [B6]at dn;refine A3 6 V (Ab DG Y)<|Ag<|Zx<|AR<|Be<|Zb [68,2,3,6,7,66,67] ?_;refine BF (e0:=[(68,_)]) (fun m e H=>∃(k:Nat) (d:CZ) (tl:List Bm) (tv:A4) (st:List A9),m=zi.length -k/\(k<=zi.length/\HV c d cs p W (s0++(s2++c.M)) (zi.take k) tl/\Row 9 tv (tl.map Value.string) st)/\e=[(68,I0 (k:Int))]/\H=[[(c.cp,.cells d.A98 95 (0,0))],d.sW,d.z.S,[(d.mb,.map d.esP d.ckP)],d.su,[(d.ip,.cells #[.map (some d.mq),d.lv] 165 (0,0))],[(d.mq,.map d.esQ d.ckQ)],d.ML,[(d.mi,.map d.esI d.ckI)],[(d.mkb,.map d.esK d.ckK)],d.SI,d.M,d.MR,[(bt,.cells #[tv] 52 (0,0))],st]) (by exact ⟨0,({c with pos:=p,wq:=wq,wc:=wc,win:=W,sW:=sW,lv:=lv2,ML:=ML2,M:=s0++(s2++c.M)}:CZ),[],.slice none 0 0,[],rfl,⟨C7 _,by rw [J0];exact wL h.tookb gq sO hp hR (fun q hq=>GB _ (GB _ hq)) (H5 (Jj gm c.M) s0) o8,Gu _⟩,rfl,rfl⟩) Wp ?_;rintro _ _ _ ⟨k,d,tl,tv,st,rfl,⟨hk,g,hT⟩,rfl,rfl⟩;refine A1<|Zv (Ay Y Y)<|A6<|Zq<|Av Y (fun bn=>?_) (fun bn=>?_);·
  obtain ⟨i9,O⟩:∃i,zi[k]?=some i:=⟨_,BT A0⟩;obtain ⟨y9,wz,cO,zf⟩:=(o9 i9).1 (DO O);obtain ⟨x,hx,rfl⟩:=C6.1 wz;replace cO:x.id=i9:=cO;subst cO;have kv:x.id∉zi.take k:=Rw y5 O
  have cu:=g.next_it h.tookb hx kv;have j5:=g.okb.its.get cu
  have qz:Dq x.id d.lmK=some (.string x.key):=D8 g.okb.its.km.keys ((g.okb.its.kmem _).2 ⟨x,cu,rfl⟩);have ax:(x.b,Obj.cells x.A97 121 (0,0))∈d.SI:=g.okb.its.sub x cu
  have vw:tl.length<=500:=R0 (P8 g.t2 fun a ha=>by
   obtain ⟨w,hw,rfl,_⟩:=(g.t1 a).1 ha;exact Dd hw) (by rw [B6];exact h.its.len)
  rcases dn with⟨_,h0,_⟩|⟨gk,capk,curk,zk,hvk,rfl,hlek,hcmk,hcsk,htkk,hfrk⟩
  · simp at h0;subst h0;simp at bn
  injection hvk with hv1 hv2 hv3
  subst hv1 hv3;have pz:curk[k]?=some (I0 x.id):=by
   have h:=congrArg (fun l=>l[k]?) htkk;simp only [HH,B6,As bn,DQ,O]at h;simpa using h
  refine AC<|Zx<|Zq<|AR<|A1<|BZ (BU DG AE Y Y (by first|omega|decide|(simp;done)|(simp;omega)))<|Zl AH Y (hv:=by exact pz) ?_;refine A5 Y<|A1<|Zl Kd Y ?_;refine Zp Y V<|Zh 5 Ft V rfl sizeOf93 Y<|Zl isAgg93 Y ?_;refine Zm Y<|Zo Wh (Dp (Cf DE (D:=fun _=>True)) eM HT g.okb.its.km (fun _ _=>trivial) (trivial) (by rw [qz];first|done|rfl) Y Y) ?_;refine A5 Y<|Zq<|Aw (n:=13) (0::1::3::7::0::31::63::127::255::511::0::1024::4095::[]) 0 AF AF V<|BE 0 V Kd Y ?_;refine A3 1 V (Ak Y V)<|A3 2 V (AA (off:=4) Ft V rfl Sf Y)<|BE 3 V RK Y ?_;refine A3 4 rfl (AO Y)<|FF 5 rfl Wh (Dp (EG HG (D:=fun _=>True)) SJ a8 g.okb.its.im (fun _ _=>trivial) (trivial) (by rw [j5];first|done|rfl) Y Y) ?_;refine A3 6 V (Ak Y V)<|A3 7 V (AA (off:=0) Hv V rfl HL Y)<|A3 8 V (Ap (off:=8) G1 V rfl AE Y)<|CV (D':=1023) 9 V rfl V (Dy Wo (ax)) (BD AH Y Ax) ?_;refine A3 10 V (AA (off:=0) HF V rfl AE Y)<|BE 11 V AH Y ?_;refine A3 12 V (EI Y Y)<|Ag<|Zn [2,3,6,7,10,66,67,68,90] ?_;refine Zx<|Av Y (fun af=>?_) (fun af=>?_);·
   refine Zg<|Zm Y<|Zm Y<|Zl Kd Y ?_;refine Zp Y V<|Zh 4 Ft V rfl Sf Y<|Zl RK Y ?_;refine Zm Y<|Zo Wh (Dp (EG HG (D:=fun _=>True)) SJ a8 g.okb.its.im (fun _ _=>trivial) (trivial) (by rw [j5];first|done|rfl) Y Y) ?_;refine Zc [_,_] Y call47 Y V (j4 g h hC A0 hx af kv hT A0 bt br bc) ?_;rintro _ _ ⟨_,⟨rfl,d2,za,yt,ek,pq,rfl⟩,rfl⟩;refine Z0<|A8<|Zx<|Zg<|Ya (n:=1) Y Y<|Zm Y<|Z0<|Zn [68,2,3,6,7,66,67] ?_;refine Aa (e':=[(68,_)]) (by exact ⟨k+1,d2,tl++[x.key],za,yt,rfl,⟨by omega,by rw [Bl O];exact ek,pq⟩,rfl,rfl⟩)
  refine AC<|A8<|Zx<|Zg<|Ya (n:=1) Y Y<|Zm Y<|Z0<|Zn [68,2,3,6,7,66,67] ?_;refine Aa (e':=[(68,_)]) (by exact ⟨k+1,d,tl,tv,st,rfl,⟨by omega,by rw [Bl O];exact wJ g h.tookb hx af,hT⟩,rfl,rfl⟩)
 obtain rfl:k=zi.length:=by omega
 rw [GC]at g;have vw:tl.length<=500:=R0 (P8 g.t2 fun a ha=>by
  obtain ⟨w,hw,rfl,_⟩:=(g.t1 a).1 ha;exact Dd hw) (by rw [B6];exact h.its.len)
 refine Az<|Zt<|Zt<|AV<|Zx<|Zq<|Zq ?_;rw [<-g.cp];refine Zg<|Zl Kd Y ?_;refine Zc [_] Y call51 Y V (dV d) ?_;rintro _ _ ⟨_,⟨bs,rfl,rfl⟩,rfl⟩;refine A6<|AR<|Zb [2,6,102] ?_;refine J7 (H0:=_) (R:=_) (I:=(fun(pre:List Bm) H=>∃d2:CZ,JP d d2 pre/\H=[[(d.cp,.cells d2.A98 95 (0,0))],d2.sW,d2.z.S,[(d2.mb,.map d2.esP d2.ckP)],d2.su,[(d2.ip,.cells #[.map (some d2.mq),d2.lv] 165 (0,0))],[(d2.mq,.map d2.esQ d2.ckQ)],d2.ML,[(d2.mi,.map d2.esI d2.ckI)],[(d2.mkb,.map d2.esK d2.ckK)],d2.SI,d2.M,d2.MR,[(bc,.cells #[.pointer (some ⟨d.cp,0,none⟩)] 29 (0,0))]])) (E:=fun x e Hn=>e=[(11,.string x),(103,.string x)]/\Hn=[]) rfl Y call103 (dX g.okb bs) (fun pre H1 c9 d9 h9=>by obtain ⟨d2,G,rfl⟩:=h9;exact ⟨d2,G.okb,G.like.cp,G.mi,G.like.pos,G.its,by rw [G.like.cp];simp,by simp,fun q hq=>by simp [hq]⟩) Y rfl Wp (⟨d,S9 g.okb,rfl⟩) ?ha_16 ?hbd_16 ?hk_16
 case ha_16=>
  intro _ x _ _;refine Zg<|AW Y<|Ku (e:=[(11,_),(103,_)]) (Hn:=[]) ?_;exact ⟨V,V⟩
 case hbd_16=>
  intro l pre x u e9 zl H1 R1 r9 wo hI p8;obtain ⟨rfl,rfl⟩:=p8;obtain ⟨d2,G,rfl⟩:=hI;obtain ⟨x2,vz,rfl⟩:=dW G g.okb wo;rw [<-G.like.cp];refine AR<|Zg<|Zl Kd Y ?_;refine Zm Y<|Zc [_,_] Y call49 Y V (Xn G.okb vz) ?_;rintro _ _ ⟨_,⟨rfl,d3,q9,j3,qb,qj,_,ql,qo,qw,rfl⟩,rfl⟩;rw [j3.cp];refine Z0<|A8<|Ei V (by exact ⟨d3,Rz G q9 j3 qb qj ql qo qw,V⟩)
 intro D1 ys H2 qx pg;obtain ⟨d2,G,rfl⟩:=pg;rw [<-G.like.cp];refine Zn [6] ?_;refine A8<|Zx<|A1<|Zl LS Y ?_;refine Zc [_] Y call52 Y V (SC hT A0) ?_;rintro _ _ ⟨_,⟨zs,s3,rfl,sj,vo,ve,rfl⟩,rfl⟩;refine A6<|A1<|Zl LS Y ?_;refine Za Y<|A5 Y<|AJ<|Fw V (rW results16 Y Y) Wo (by exact ⟨d2,q2,cap2,zs,tv,s3,s0++s2,V,wK h hR hp gq g (fun q hq=>GB _ (GB _ hq)) o9 G qx sj vo,G.M.1.trans (g.M.trans (Cd _ _ _).symm),ve,V⟩)
theorem uZ:GN [] 0 #[] 0 [] (.pointer none) [] #[] 0 [] #[] 0 [] []:=⟨ny,.inl ⟨rfl,rfl⟩,EZ _,fun p=>by simp,EZ _,fun p=>by simp,mx,fun x g=>by simp at g,by decide,by decide,fun x g=>by simp at g,fun x g=>by simp at g⟩
variable{d:CZ}
theorem vS(h:d.okb)(hi:d.its=[])(pos:Int)(B:0<=pos/\pos<=10000):({d with pos:=pos,wq:=none,wc:=0,win:=[],sW:=[]}:CZ).ok:=
 ⟨⟨B,Bi 2 _,C7 _,fun i r G=>by simp at G,h.pool,h.pk,h.its,h.tns⟩,fun x I=>by have g:x∈d.its:=I;rw [hi]at g;simp at g⟩
theorem CZ.okb.noPL(h:c.okb)(hi:c.its=[]):c.PL=[]:=by
 cases hP:c.PL with
 |nil=>rfl
 |cons e l=>
  have g:=(h.pk e.key).1 (by rw [hP];simp);rw [hi]at g;simp at g
variable{v:A4}{sh:List Int}
theorem oz{U:List A9}(X:Row 3 v (sh.map (Value.int .i64)) U)(pos cap:Int)(W:0<=pos/\pos<=10000)(hc:1<=cap/\cap<=1000000)(Z:1<=sh.length/\sh.length<=8)(h0:∀x∈sh,0<=x)(K:sh.sum<=cap):BS prog 8 #[I0 pos,I0 cap,v] [U] (fun r H'=>∃c:CZ,r= .tuple #[.pointer (some ⟨c.cp,0,none⟩),I0 0]/\c.ok/\(c.its=[]/\c.PL=[]/\c.win=[])/\c.pos=pos/\c.next=0/\c.ns=sh.length/\c.z.cap=cap/\Jo c.M c.z.sh sh/\H'=[[(c.cp,.cells c.A98 95 (0,0))],c.sW,c.z.S,[(c.mb,.map c.esP c.ckP)],c.su,[(c.ip,.cells #[.map (some c.mq),c.lv] 165 (0,0))],[(c.mq,.map c.esQ c.ckQ)],c.ML,[(c.mi,.map c.esI c.ckI)],[(c.mkb,.map c.esK c.ckK)],c.SI,c.M,c.MR,U]):=by
 refine Se func8 ntmps8 [0,1,2] ?_;intro u R;refine A1<|Za Y<|A5 Y<|Zq<|A1<|Zm Y<|Xr [_] Y call26 Y V (JJ pos) ?_;rw [D2 W];refine Zv (Br Y)<|A6<|AQ Y (fun B=>by cases B)<|fun B=>AC<|Zx<|A1<|Zm Y<|Zm Y<|Zc [_,_] Y call27 Y V (nE X cap hc Z h0 K) ?_;rintro _ _ ⟨_,⟨z,mb,su,sc,rfl,⟨I,J⟩,g,rfl⟩,rfl⟩;refine Zm Y<|Zd Y V<|Zd Y V<|Za Y<|AW Y<|Zn [0,8,9] ?_;refine Zx<|Zq<|A1<|Zm Y<|Zv (EU (n:=0) Y Y)<|A6<|Av Y (fun G=>?_) (fun G=>?_);·
  exfalso;exact G rfl
 refine AC<|Zx<|Zq<|Be<|Be<|Be<|Be<|Zg<|Zm Y<|Zm Y<|Zc [] Y call28 Y V (kW) ?_;rintro _ _ ⟨_,⟨ip,mq,rfl,rfl⟩,rfl⟩;refine Ze (DV)<|AG fun mi=>Ze (DV)<|AG fun mkb=>Zv (BM (vs:=[(0,_),(2,_),(3,_),(4,_),(5,_)]) (cs:=#[_,_,_,_,_,_,_]) Y (AZ (pl:=#[(0,1),(1,1),(2,1),(3,1),(4,1),(5,1),(6,1)]) zeroValue95 Ft (fun _=>by kernel_rfl) V))<|Ze (Bx #[_,_,_,_,_,_,_])<|AG fun cp=>Za Y<|A5 Y<|AJ<|DF V results8 Y Y (by refine ⟨({cp:=cp,pos:=pos,wq:=none,wc:=0,win:=[],sW:=[],z:=z,ns:=sh.length,PL:=[],mb:=mb,esP:=#[],ckP:=0,lmP:=[],su:=su,ip:=ip,mq:=mq,mi:=mi,mkb:=mkb,next:=0,its:=[],esQ:=#[],ckQ:=0,lmQ:=[],lv:= .pointer none,ML:=[],esI:=#[],ckI:=0,lmI:=[],esK:=#[],ckK:=0,lmK:=[],SI:=[],M:=sc,MR:=[]}:CZ),V,⟨⟨W,Bi 2 _,by simp,fun i r hr=>by simp at hr,g,fun k=>by simp,uZ,fun x O=>by simp at O⟩,fun x O=>by simp at O⟩,⟨V,V,V⟩,V,V,V,I,J,V⟩)
theorem vV(pos:Int)(cap:Int)(v:A4)(B:¬(0<=pos/\pos<=10000)):BJ prog 8 #[I0 pos,I0 cap,v] [] (.tuple #[.pointer none,I0 180]):=by
 refine Se func8 ntmps8 [0,1,2] ?_;intro u R;refine A1<|Za Y<|A5 Y<|Zq<|A1<|Zm Y<|Xr [_] Y call26 Y V (JJ pos) ?_;rw [Cl B];refine Zv (Br Y)<|A6<|AQ Y (fun g=>?_) (fun g=>?_);·
  refine A1<|Za Y<|A5 Y<|AJ<|Zt<|DF V results8 Y Y (by exact ⟨V,V⟩)
 cases g
theorem eF(h:c.ok)(pos:Int)(hp:0<=pos/\pos<=10000):BS prog 22 #[.pointer (some ⟨c.cp,0,none⟩),I0 pos] [[(c.cp,.cells c.A98 95 (0,0))],c.sW,c.z.S,[(c.mb,.map c.esP c.ckP)],c.su,[(c.ip,.cells #[.map (some c.mq),c.lv] 165 (0,0))],[(c.mq,.map c.esQ c.ckQ)],c.ML,[(c.mi,.map c.esI c.ckI)],[(c.mkb,.map c.esK c.ckK)],c.SI,c.M,c.MR] (fun v H'=>v=undef/\∃d:CZ,d.ok/\d.cp=c.cp/\(d.its=[]/\d.PL=[]/\d.win=[])/\d.pos=pos/\d.next=c.next/\d.ns=c.ns/\d.z.cap=c.z.cap/\(d.z.cs=c.z.cs/\∀q∈c.M,q∈d.M)/\H'=[[(d.cp,.cells d.A98 95 (0,0))],d.sW,d.z.S,[(d.mb,.map d.esP d.ckP)],d.su,[(d.ip,.cells #[.map (some d.mq),d.lv] 165 (0,0))],[(d.mq,.map d.esQ d.ckQ)],d.ML,[(d.mi,.map d.esI d.ckI)],[(d.mkb,.map d.esK d.ckK)],d.SI,d.M,d.MR]):=by
 refine Se func22 ntmps22 [0,1] ?_;intro u R;refine Zq<|A1<|Zm Y<|Zv (Bg SM Y Y)<|Zm Y<|Aj (t:=8) Y V (fun g1=>by cases g1)<|fun g1=>Zf Y Y<|Xr [_] Y call26 Y V (JJ pos) ?_;rw [D2 hp];refine Yg (Br Y)<|Zv (AL Y Y)<|A6<|AQ Y (fun K=>by cases K)<|fun K=>AC<|Zx<|Zq<|A1<|Zm Y<|Zc [_] Y call17 Y V (O3 h.tookb) ?_;rintro _ _ ⟨_,⟨zs,sk,B,gm,J,rfl⟩,rfl⟩;have dn:zs.Nodup:=B.nodup_iff.2 h.its.keys
 have d9:=B.length_eq;rw [B6]at d9;have ek:=h.its.len
 obtain ⟨pk,ck,rfl⟩:=J.form;simp only [B6];rw [B6]at J;refine Zv (Ab DH Y)<|Zm Y<|A6<|AR<|Zb [16,0,1,14,15] ?_;refine BF (e0:=[(16,_)]) (fun m e H=>∃(i:Nat) (d:CZ),m=zs.length -i/\(i<=zs.length/\JP c d (zs.take i))/\e=[(16,I0 (i:Int))]/\H=[[(c.cp,.cells d.A98 95 (0,0))],d.sW,d.z.S,[(d.mb,.map d.esP d.ckP)],d.su,[(d.ip,.cells #[.map (some d.mq),d.lv] 165 (0,0))],[(d.mq,.map d.esQ d.ckQ)],d.ML,[(d.mi,.map d.esI d.ckI)],[(d.mkb,.map d.esK d.ckK)],d.SI,d.M,d.MR]) (by exact ⟨0,c,rfl,⟨C7 _,by rw [J0];exact S9 h.tookb⟩,rfl,rfl⟩) Wp ?_;rintro _ _ _ ⟨i,d,rfl,⟨hi,g⟩,rfl,rfl⟩;refine A1<|Zv (Ay Y Y)<|A6<|Zq<|Av Y (fun I=>?_) (fun I=>?_);·
  obtain ⟨k,U⟩:∃k,zs[i]?=some k:=⟨_,BT A0⟩;obtain ⟨x,hx,rfl⟩:=C6.1 (B.mem_iff.1 (DO U));have cO:x∈d.its:=(g.its x).2 ⟨hx,Rw dn U⟩
  rcases J with⟨_,h0,_⟩|⟨gk,capk,curk,zk,hvk,rfl,hlek,hcmk,hcsk,htkk,hfrk⟩
  · simp at h0;subst h0;simp at I
  injection hvk with hv1 hv2 hv3
  subst hv1 hv3;have W:curk[i]?=some (.string x.key):=by
   have h:=congrArg (fun l=>l[i]?) htkk;simp only [HH,B6,As I,DQ,U]at h;simpa using h
  refine AC<|Zx<|Zq<|AR<|A1<|BZ (BU DH Fk Y Y de)<|Zl HO Y (hv:=by exact W)<|AW Y<|Zx ?_;rw [<-g.like.cp];refine Zg<|Zm Y<|Zm Y<|Zc [_,_] Y call49 Y V (Xn g.okb cO) ?_;rintro _ _ ⟨_,⟨rfl,d3,X,O,Z,af,_,ax,bn,cu,rfl⟩,rfl⟩;rw [O.cp,g.like.cp];refine Z0<|A8<|Zx<|Zg<|Ya (n:=1) Y Y<|Zm Y<|Z0<|Zn [16,0,1,14,15] ?_;refine Aa (e':=[(16,_)]) (by exact ⟨i+1,d3,rfl,⟨by omega,by rw [Bl U];exact Rz g X O Z af ax bn cu⟩,rfl,rfl⟩)
 obtain rfl:i=zs.length:=by omega
 rw [GC]at g;have G:d.its=[]:=rh.2 fun y hy=>by
  obtain ⟨h1,h2⟩:=(g.its y).1 hy;exact h2 (B.mem_iff.2 (Dd h1))
 refine Az<|Zt<|Zt<|AV<|Zx ?_;rw [<-g.like.cp];refine Be<|Zg<|Zm Y<|Zm Y<|Zm Y<|Zp Y rfl<|Zh 0 Ft rfl rfl AE Y<|Xe (Zs AE Y Y rfl (hi:=by(simp;done)))<|Zp Y rfl<|Zh 1 Ft rfl rfl SZ Y<|Xe (Zs SZ Y Y rfl (hi:=by(simp;done)))<|Z0<|Cc rfl results22 (by exact ⟨rfl,({d with pos:=pos,wq:=none,wc:=0,win:=[],sW:=[]}:CZ),vS g.okb G pos hp,rfl,⟨G,g.okb.noPL G,rfl⟩,rfl,g.next,g.like.ns,g.like.cap,⟨g.like.sc,fun q hq=>by show q∈d.M;rw [g.M.1];exact hq⟩,rfl⟩)
theorem bQ(h:c.okb)(I:Cv ME (.slice qa cs.length cap) cs)(O:EK p cs)(hp:p≠c.pos+1):BJ prog 16 #[.pointer (some ⟨c.cp,0,none⟩),.agg #[I0 p,.slice qa cs.length cap]] [[(c.cp,.cells c.A98 95 (0,0))],ME] (.tuple #[.slice none 0 0,I0 180]):=by
 have W:=mL;obtain ⟨p9,G,J,X,U⟩:=id I;injection J with e91 e92 e93
 subst e91 e93;refine DT func16 V ntmps16 V ?_;intro u R;refine Zb [0,1] ?_;refine A1<|Ze (Bx #[_])<|AG fun Z=>Ze (Bx #[I0 p,.slice qa cs.length cap])<|AG fun b2=>Za Y<|A5 Y<|Zq<|AR<|A1<|Zl Kd Y<|Zv (Bg SM Y Y)<|A5 Y<|AQ Y (fun g=>by cases g)<|fun g=>Zq<|Aw (n:=14) (0::1::3::7::15::31::15::79::207::463::975::2047::4095::8191::[]) 2 AF AF V<|FF 0 V Wh (AB (cs:=#[_,_]) IH G3 Y B5 (BO V))<|Yw 1 3 V (Zu [_] Y call44 Y V (Pq p qa cap cs ME I)) ?_;rintro _ _ ⟨rfl,rfl⟩;rw [D2 O];refine A3 2 V (Br Y)<|A3 3 V (AO Y)<|Ce (t:=19) Y (fun B=>?_) (fun B=>?_);·
  rw [B];cases B
 rw [B];refine B1 4 V (AA (off:=0) HF V rfl AE Y)<|DP 5 V Wh (BD AH Y Ax)<|DP 6 V Wh (BD Kd Y Ax)<|B1 7 V (Ak Y V)<|B1 8 V (AA (off:=0) Ft V rfl AE Y)<|DP 9 V Wh (BD AH Y Ax)<|B1 10 V (Ha Y Y (IntWalk.i64_in _ (by have:=h.pos;omega)))<|B1 11 V (KI Y Y)<|A3 12 V (AL Y Y)<|A3 13 V (Aq Y)<|Ag<|Zn [2,3,15] ?_;refine Zx<|Av Y (fun K=>?_) (fun K=>?_);·
  refine A1<|Za Y<|A5 Y<|AJ<|Ac<|Zt<|TT V (rW results16 Y Y) (by exact ⟨V,V⟩)
 exfalso;omega
theorem EJ{P:Program}{f:FuncId}{args:AM}{H H1:Hp}{Q B:A4->Hp->Prop}(h:BS P f args H Q)(R:List A9)(O:H1.flatten.Perm (H.flatten++R))(U:∀v H',Q v H'->∃g,B v g/\g.flatten.Perm (H'.flatten++R)):BS P f args H1 B:=fun u G w W=>by
 have I:Sat u (H++([R]++G)) w:=W.perm (by
  simp only [HC,CC,Fl,DA];rw [<-Cd];exact O.append_right _)
 refine (h u ([R]++G) w I).mono ?_;rintro e X (⟨v,H',rfl,h2,h3⟩|⟨_,_,_,h,_⟩)
 · obtain ⟨g,J,K⟩:=U v H' h2
   refine .inl ⟨v,g,V,J,h3.perm ?_⟩;simp only [HC,CC,Fl,DA];rw [<-Cd];exact K.symm.append_right _
 · exact h.elim
theorem LB{P:Program}{f:FuncId}{args:AM}{H H1:Hp}{r:A4}(h:BJ P f args H r)(R:List A9)(g:H1.flatten.Perm (H.flatten++R)):BJ P f args H1 r:=EJ h R g (by
 rintro v H' ⟨rfl,rfl⟩;exact ⟨_,⟨V,V⟩,g⟩)
def CZ.mem(c:CZ):List A9:=([(c.cp,.cells c.A98 95 (0,0))]:List A9)++((c.sW:List A9)++((c.z.S:List A9)++(([(c.mb,.map c.esP c.ckP)]:List A9)++((c.su:List A9)++(([(c.ip,.cells #[.map (some c.mq),c.lv] 165 (0,0))]:List A9)++(([(c.mq,.map c.esQ c.ckQ)]:List A9)++((c.ML:List A9)++(([(c.mi,.map c.esI c.ckI)]:List A9)++(([(c.mkb,.map c.esK c.ckK)]:List A9)++((c.SI:List A9)++((c.M:List A9)++((c.MR:List A9)))))))))))))
theorem ja(h:c.okb){B:Int}(K:∀e∈c.PL,e.sz<=B):c.z.cap -(c.its.length:Int)*B<=c.z.fr:=by
 have J:∀L:List Bh,(∀e∈L,e.sz<=B)->FI L<=(L.length:Int)*B:=fun L=>by
  induction L with
  |nil=>intro _;simp [FI]
  |cons e l ih=>
   intro I;have h2:=ih fun x O=>I x (E7 _ O)
   have g:=I e (E3 ..);have G:FI (e::l)=e.sz+FI l:=by unfold FI;rw [Dg,kO]
   rw [G,E4];push_cast;rw [Int.add_mul];omega
 have h2:(c.PL.map (·.key)).Perm (c.its.map ItM.key):=(N6 h.pool.keys h.its.keys).2 h.pk;have g:=h2.length_eq
 rw [B6,B6]at g;have G:=J c.PL K
 rw [g]at G;have U:=h.pool.free
 omega
def zj(c d:CZ)(q:QM)(tn base:Int)(L:List RP)(R:C9×Int×Bool)(b:Bool):Prop:=
 (b=false/\d=c/\¬((c.pos -base).toNat<=c.win.length/\R.2.2=true))\/
 (b=true/\((c.pos -base).toNat<=c.win.length/\R.2.2=true)/\(∀e∈d.PL,e∈c.PL\/e.sz=1+(R.1.rows.length:Int))/\
   ((d=c/\∃x∈c.its,x.key=str (Bn q)/\base<=x.base)\/
    ((∀x∈c.its,x.key=str (Bn q)->x.base<base)/\∃y:ItM,d.its=(c.its.filter fun x=>x.key≠str (Bn q))++[y]/\y.q=q/\y.base=base/\y.L=L/\y.res=R.1/\y.since=R.2.1/\((y.tn=tn/\∀x∈c.its,x.key≠str (Bn q))\/∃x∈c.its,x.key=str (Bn q)/\y.tn=x.tn))))
theorem gL(c:CZ):BJ prog 15 #[.pointer (some ⟨c.cp,0,none⟩)] [c.mem] (I0 c.pos):=LB (oq c) ((c.sW:List A9)++(c.z.S:List A9)++([(c.mb,.map c.esP c.ckP)]:List A9)++(c.su:List A9)++([(c.ip,.cells #[.map (some c.mq),c.lv] 165 (0,0))]:List A9)++([(c.mq,.map c.esQ c.ckQ)]:List A9)++(c.ML:List A9)++([(c.mi,.map c.esI c.ckI)]:List A9)++([(c.mkb,.map c.esK c.ckK)]:List A9)++(c.SI:List A9)++(c.M:List A9)++(c.MR:List A9)++[]) (Bz fun f g=>by simp only [CC,Fl,DA,CZ.mem,CZ.A98,g]<;>omega)
variable{k:Nat}
theorem wk(h:c.okb)(B:k<c.ns):BJ prog 12 #[.pointer (some ⟨c.cp,0,none⟩),I0 (k:Int)] [c.mem] (I0 (Du c.PL (k:Int))):=LB (iN h B) ((c.sW:List A9)++([(c.ip,.cells #[.map (some c.mq),c.lv] 165 (0,0))]:List A9)++([(c.mq,.map c.esQ c.ckQ)]:List A9)++(c.ML:List A9)++([(c.mi,.map c.esI c.ckI)]:List A9)++([(c.mkb,.map c.esK c.ckK)]:List A9)++(c.SI:List A9)++(c.M:List A9)++(c.MR:List A9)++[]) (Bz fun f g=>by simp only [CC,Fl,DA,CZ.mem,CZ.A98,g]<;>omega)
variable{x:ItM}
theorem Vz(h:c.ok)(G:x∈c.its)(g:c.pos<x.base):BJ prog 18 #[.pointer (some ⟨c.cp,0,none⟩),.string x.key] [c.mem] (.tuple #[.agg #[I0 0,I0 0,I0 0,I0 0,I0 0,I0 0,I0 0,.slice none 0 0,I0 0,.bool false,I0 0,I0 0,I0 0,.slice none 0 0,.slice none 0 0],.bool false]):=LB (uw h G g) ((c.sW:List A9)++(c.z.S:List A9)++([(c.mb,.map c.esP c.ckP)]:List A9)++(c.su:List A9)++([(c.ip,.cells #[.map (some c.mq),c.lv] 165 (0,0))]:List A9)++([(c.mq,.map c.esQ c.ckQ)]:List A9)++(c.ML:List A9)++([(c.mkb,.map c.esK c.ckK)]:List A9)++(c.MR:List A9)++[]) (Bz fun f B=>by simp only [CC,Fl,DA,CZ.mem,CZ.A98,B]<;>omega)
theorem W9(h:c.ok)(J:x∈c.its):BS prog 11 #[.pointer (some ⟨c.cp,0,none⟩),.string x.key] [c.mem] (fun r H'=>∃B g s,r= .tuple #[.agg #[I0 x.q.kd,I0 x.q.tb,I0 x.q.cl,I0 x.q.lo,I0 x.q.hi,I0 x.q.bq,I0 x.q.ot,I0 x.tn,I0 x.base,.slice B x.L.length g],.bool true]/\G6 s (.slice B x.L.length g) x.L/\H'=[c.mem,s]):=EJ (UB h J) ((c.sW:List A9)++(c.z.S:List A9)++([(c.mb,.map c.esP c.ckP)]:List A9)++(c.su:List A9)++([(c.ip,.cells #[.map (some c.mq),c.lv] 165 (0,0))]:List A9)++([(c.mq,.map c.esQ c.ckQ)]:List A9)++(c.ML:List A9)++([(c.mkb,.map c.esK c.ckK)]:List A9)++(c.MR:List A9)++[]) (Bz fun f G=>by simp only [CC,Fl,DA,CZ.mem,CZ.A98,G]<;>omega) (by
 rintro r H' ⟨B,g,s,I,h2,rfl⟩;exact ⟨_,⟨B,g,s,I,h2,V⟩,Bz fun f G=>by simp only [CC,Fl,DA,CZ.mem,CZ.A98,G]<;>omega⟩)
theorem Rb(h:c.ok)(K:x∈c.its)(J:x.base<=c.pos):BS prog 18 #[.pointer (some ⟨c.cp,0,none⟩),.string x.key] [c.mem] (fun r H'=>∃(z:V5) (l:List BR) (s:List A9),z.a=⟨x.q,x.res,x.since,c.pos,x.base,x.L,l⟩/\l.map BR.pc=(Ct c.pos x.base c.win).map BR.pc/\z.ok s/\r= .tuple #[.agg z.A96,.bool true]/\H'=[c.mem,s]):=EJ (ua h K J) ((c.z.S:List A9)++([(c.mb,.map c.esP c.ckP)]:List A9)++(c.su:List A9)++([(c.ip,.cells #[.map (some c.mq),c.lv] 165 (0,0))]:List A9)++([(c.mq,.map c.esQ c.ckQ)]:List A9)++(c.ML:List A9)++([(c.mkb,.map c.esK c.ckK)]:List A9)++(c.MR:List A9)++[]) (Bz fun f g=>by simp only [CC,Fl,DA,CZ.mem,CZ.A98,g]<;>omega) (by
 rintro r H' ⟨z,l,s,B,h2,G,I,rfl⟩;exact ⟨_,⟨z,l,s,B,h2,G,I,V⟩,Bz fun f g=>by simp only [CC,Fl,DA,CZ.mem,CZ.A98,g]<;>omega⟩)
theorem zn(h:c.okb):BS prog 17 #[.pointer (some ⟨c.cp,0,none⟩)] [c.mem] (fun r H'=>∃(zs:List Bm) (s:List A9),zs.Perm (c.its.map ItM.key)/\(zs.Pairwise fun x y=>x.data.toList<=y.data.toList)/\Row 9 r (zs.map Value.string) s/\H'=[c.mem,s]):=EJ (O3 h) ((c.sW:List A9)++(c.z.S:List A9)++([(c.mb,.map c.esP c.ckP)]:List A9)++(c.su:List A9)++([(c.ip,.cells #[.map (some c.mq),c.lv] 165 (0,0))]:List A9)++([(c.mq,.map c.esQ c.ckQ)]:List A9)++(c.ML:List A9)++([(c.mkb,.map c.esK c.ckK)]:List A9)++(c.SI:List A9)++(c.M:List A9)++(c.MR:List A9)++[]) (Bz fun f g=>by simp only [CC,Fl,DA,CZ.mem,CZ.A98,g]<;>omega) (by
 rintro r H' ⟨zs,s,B,h2,G,rfl⟩;exact ⟨_,⟨zs,s,B,h2,G,V⟩,Bz fun f g=>by simp only [CC,Fl,DA,CZ.mem,CZ.A98,g]<;>omega⟩)
theorem tt(h:c.ok)(pos:Int)(X:0<=pos/\pos<=10000):BS prog 22 #[.pointer (some ⟨c.cp,0,none⟩),I0 pos] [c.mem] (fun r H'=>r=undef/\∃d:CZ,d.ok/\d.cp=c.cp/\(d.its=[]/\d.PL=[]/\d.win=[])/\d.pos=pos/\d.next=c.next/\d.ns=c.ns/\d.z.cap=c.z.cap/\(d.z.cs=c.z.cs/\∀q∈c.M,q∈d.M)/\H'=[d.mem]):=EJ (eF h pos X) [] (Bz fun f g=>by simp only [CC,Fl,DA,CZ.mem,CZ.A98,g]<;>omega) (by
 rintro r H' ⟨B,d,h2,G,I,J,K,O,U,W,rfl⟩;exact ⟨_,⟨B,d,h2,G,I,J,K,O,U,W,V⟩,Bz fun f g=>by simp only [CC,Fl,DA,CZ.mem,CZ.A98,g]<;>omega⟩)
theorem zh{B:List A9}(X:Row 3 v (sh.map (Value.int .i64)) B)(pos cap:Int)(hp:0<=pos/\pos<=10000)(hc:1<=cap/\cap<=1000000)(hl:1<=sh.length/\sh.length<=8)(h0:∀x∈sh,0<=x)(g:sh.sum<=cap):BS prog 8 #[I0 pos,I0 cap,v] [B] (fun r H'=>∃c:CZ,r= .tuple #[.pointer (some ⟨c.cp,0,none⟩),I0 0]/\c.ok/\(c.its=[]/\c.PL=[]/\c.win=[])/\c.pos=pos/\c.next=0/\c.ns=sh.length/\c.z.cap=cap/\Jo c.M c.z.sh sh/\H'=[c.mem,B]):=EJ (oz X pos cap hp hc hl h0 g) [] (B4) (by
 rintro r H' ⟨c,G,h2,I,J,K,O,U,W,rfl⟩;exact ⟨_,⟨c,G,h2,I,J,K,O,U,W,V⟩,Bz fun f Z=>by simp only [CC,Fl,DA,CZ.mem,CZ.A98,Z]<;>omega⟩)
theorem tx(h:c.ok)(I:Cv ME (.slice qa cs.length cap) cs)(J:EK p cs)(K:p=c.pos+1):BS prog 16 #[.pointer (some ⟨c.cp,0,none⟩),.agg #[I0 p,.slice qa cs.length cap]] [c.mem,ME] (fun r H'=>∃(d:CZ) (q2:B8) (cap2:Nat) (zs:List Bm) (tv:A4) (s:List A9),r= .tuple #[tv,I0 0]/\H9 c d p cs q2 cap2 zs/\Row 9 tv (zs.map Value.string) s/\H'=[d.mem,ME,s]):=EJ (bP h I J K) [] (Bz fun f g=>by simp only [CC,Fl,DA,CZ.mem,CZ.A98,g]<;>omega) (by
 rintro r H' ⟨d,q2,cap2,zs,tv,s,O,B,h2,_,G,rfl⟩;exact ⟨_,⟨d,q2,cap2,zs,tv,s,B,h2,G,V⟩,Bz fun f g=>by simp only [CC,Fl,DA,CZ.mem,CZ.A98,g]<;>omega⟩)
theorem ZX(h:c.okb)(g:Cv ME (.slice qa cs.length cap) cs)(B:EK p cs)(I:p≠c.pos+1):BJ prog 16 #[.pointer (some ⟨c.cp,0,none⟩),.agg #[I0 p,.slice qa cs.length cap]] [c.mem,ME] (.tuple #[.slice none 0 0,I0 180]):=LB (bQ h g B I) ((c.sW:List A9)++(c.z.S:List A9)++([(c.mb,.map c.esP c.ckP)]:List A9)++(c.su:List A9)++([(c.ip,.cells #[.map (some c.mq),c.lv] 165 (0,0))]:List A9)++([(c.mq,.map c.esQ c.ckQ)]:List A9)++(c.ML:List A9)++([(c.mi,.map c.esI c.ckI)]:List A9)++([(c.mkb,.map c.esK c.ckK)]:List A9)++(c.SI:List A9)++(c.M:List A9)++(c.MR:List A9)++[]) (Bz fun f G=>by simp only [CC,Fl,DA,CZ.mem,CZ.A98,G]<;>omega)
noncomputable instance(a b:Ir):Decidable (a=b):=Classical.propDecidable _
def Ir.ok(h:Ir):Prop:=(0<=h.p/\h.p<=10000)/\h.ch.length=32/\h.st.length=32
instance(h:Ir):Decidable h.ok:=inferInstanceAs(Decidable (_/\_))
def BR.key(r:BR):Int×List Chg:=(r.p,r.cs)
def wR(h:Ir)(r:BR)(st:Bs):Prop:=EK r.p r.cs/\h.ok/\st.length=32/\r.p=h.p+1
noncomputable instance(h:Ir)(r:BR)(st:Bs):Decidable (wR h r st):=Classical.propDecidable _
def wj(h:Ir)(r:BR)(st:Bs):Ir:=⟨r.p,uv h.ch (ur r.p r.cs),st⟩
noncomputable def zR(st:Bs):Ir->List BR->Option Ir
 |h,[]=>some h
 |h,r::l=>if wR h r st then zR st (wj h r st) l else none
def cZ(a:Ir)(l:List BR)(b:Ir):Prop:=a.ok/\b.ok/\zR b.st a l=some b
noncomputable instance(a:Ir)(l:List BR)(b:Ir):Decidable (cZ a l b):=Classical.propDecidable _
def dB.eqv(a b:dB):Prop:=a.q=b.q/\a.since=b.since/\a.until_=b.until_/\a.base=b.base/\a.res=b.res/\a.ranges=b.ranges/\a.recs.map BR.key=b.recs.map BR.key
instance(a b:dB):Decidable (a.eqv b):=inferInstanceAs(Decidable (_/\_))
def vh(base until_:Ir)(a:dB):Prop:=base.p=a.base/\until_.p=a.until_/\cZ base a.recs until_/\(∀x∈a.ranges,rL base.st x)/\∃b,Jy a.q a.base a.ranges a.recs=some b/\a.eqv b
noncomputable instance(base until_:Ir)(a:dB):Decidable (vh base until_ a):=Classical.propDecidable _
def RP.small(x:RP):Prop:=(∀s∈x.roots,s.length<=140737488354000)/\∀l∈x.paths,l.length<=1000000
def putE(n:Int):Int:=if n< -4611686018427387903 then 10 else 0
theorem OL{z:Int}(k:Int)(B:1<=k)(g:-9223372036854775808<=z)(h2:z<=9223372036854775807):-9223372036854775808<=z.tdiv k/\z.tdiv k<=9223372036854775807:=by
 have h:=Int.natAbs_tdiv_le_natAbs z k;rcases Int.lt_or_le z 0 with hz|hz
 · have:z.tdiv k<=0:=by
    obtain ⟨y,rfl⟩:∃y,z=-y:=⟨-z,by omega⟩;rw [Int.neg_tdiv];have:=Int.tdiv_nonneg (a:=y) (b:=k) A0 A0
    omega
   omega
 · have:=Int.tdiv_nonneg hz (show(0:Int)<=k by omega)
   omega
theorem VA{kd tb cl lo hi bq ot:Int}(h:(0<=tb/\tb<=3)/\(0<=cl/\cl<=3)/\(-1000000000<=lo/\lo<=hi/\hi<=1000000000)/\
 ((kd=1/\cl=0/\lo=hi/\(1<=lo/\lo<=1000000)/\bq=0/\ot=0)\/((kd=2\/kd=3)/\bq=0/\ot=0)\/
  ((kd=4\/kd=5\/kd=6)/\(1<=bq/\bq<=3)/\ot=0)\/(kd=7/\(1<=bq/\bq<=3)/\(0<=ot/\ot<=3)))):BI ⟨kd,tb,cl,lo,hi,bq,ot⟩:=h
theorem sK(rs:List AU)(c:Chg):(EL rs c).length<=rs.length+1:=by
 unfold EL Nl;simp only [BW,CD,CH];split<;>simp only [F2,Ks]<;>omega
theorem Sq:∀(cs:List Chg) (rs:List AU),(DL rs cs).length<=rs.length+cs.length
 |[],_=>CT _
 |c::cs,rs=>by
  have g:=Sq cs (EL rs c);have h2:=sK rs c
  rw [E4];exact R0 g A0
variable{l:List BR}
theorem En.few(h:En l):∀i,i<=l.length->(BQ (l.take i)).length<=3*i
 |0,_=>by rw [J0];exact CT _
 |i+1,hi=>by
  obtain ⟨r,g⟩:∃r,l[i]?=some r:=⟨_,BT A0⟩;rw [Bl g,Fq];have B:=Sq r.cs (BQ (l.take i))
  have h2:=En.few h i A0;have G:=(h i r g).2
  omega
variable{M:List A9}
theorem pT{q:B8}(B:Ee M (.slice q l.length cap) l)(g:En l)(J:l.length<=1000000)(k:Nat)(G:k<=l.length):BS prog 19 #[.slice q l.length cap,I0 (k:Int)] [M] (fun r H'=>∃v s,r= .tuple #[v,I0 0]/\PY v (k:Int) (BQ (l.take k)) s/\H'=[s,M]):=by
 refine Ga (wA q cap l M B g J k G) V ?_;rintro r H' ⟨X,W,es,ck,lm,rfl,K,I,rfl⟩;obtain ⟨U,O⟩:=g.rows k G;exact ⟨_,⟨_,_,V,⟨X,W,es,ck,lm,V,K,I,U,O,V⟩,V⟩,by simp⟩
def Ot(l:List BR)(a b:Nat):List BR:=(l.drop a).take (b -a)
theorem qi(h:En l)(G:l.length<=20)(g:k<=l.length)(q:QM):(CU (BQ (l.take k)) q).length<=100:=by
 have B:=h.few k g;have h2:=(@Nf (BQ (l.take k)) q.tb q.cl.toNat q.lo q.hi).1
 unfold CU;omega
theorem nM(rs:List AU)(q:QM):(F3 rs q).length<=1+(CU rs q).length:=by
 unfold F3;split;· rw [E4,B6];omega
 · simp
def GZ(x0 x1 x2 x3 x4:Int):QM:=
 if CF x0 7=0 then⟨((1+CF x0 7:Nat):Int),(CF (x0.tdiv 7) 3:Int),0,((1+CF x1 9:Nat):Int),((1+CF x1 9:Nat):Int),0,0⟩
 else⟨((1+CF x0 7:Nat):Int),(CF (x0.tdiv 7) 3:Int),(CF x1 4:Int),(CF x2 12:Int) -3,(CF x2 12:Int) -3+(CF x3 14:Int),if 3<=CF x0 7 then((1+CF x4 3:Nat):Int)else 0,if CF x0 7=6 then(CF (x4.tdiv 3) 3:Int)else 0⟩
theorem eO(g B I J G:Int):BI (GZ g B I J G):=by
 have a0:=Dw g 7 B0;have K:=Dw (g.tdiv 7) 3 B0
 have O:=Dw B 9 B0;have U:=Dw B 4 B0
 have W:=Dw I 12 B0;have X:=Dw J 14 B0
 have Z:=Dw G 3 B0;have a7:=Dw (G.tdiv 3) 3 B0
 unfold GZ;split;· exact VA A0
 · split<;>split<;>exact VA A0
theorem Gb(c:Int)(n:Nat)(I:0<n)(B:n<=1000000)(G:-9223372036854775808<=c)(h2:c<=9223372036854775807):BJ prog 7 #[I0 c,I0 (n:Int)] [] (I0 (CF c n:Int)):=by
 refine Se func7 ntmps7 [0,1] ?_;intro u R;refine A1<|A5 Y<|Zq<|A1<|Zm Y<|Zv (EI Y Y)<|A6<|Av Y (fun g=>?_) (fun g=>?_);·
  refine Zg<|Zm Y<|Yi Y Y ?_;refine BZ (jd Y (IntWalk.i64_in _ A0))<|A5 Y<|A1<|Zm Y<|Zm Y<|BZ (tF Y Y A0 rfl)<|A5 Y<|AJ<|AP rfl results7 Y (by exact ⟨by rw [<-Z4];simp [*],rfl⟩)
 refine AC<|Zx<|A1<|Zm Y<|Zm Y<|BZ (tF Y Y A0 rfl)<|A5 Y<|AJ<|AP rfl results7 Y (by exact ⟨by rw [<-Z4];simp [*],rfl⟩)
set_option maxHeartbeats 1000000 in
theorem ry(g G q2 J I:Int)(K:-9223372036854775808<=g)(O:g<=9223372036854775807)(Z:-9223372036854775808<=G)(af:G<=9223372036854775807)(ax:-9223372036854775808<=q2)(bn:q2<=9223372036854775807)(cu:-9223372036854775808<=J)(cO:J<=9223372036854775807)(U:-9223372036854775808<=I)(W:I<=9223372036854775807):BJ prog 9 #[.agg #[I0 g,I0 G,I0 q2,I0 J,I0 I]] [] (.agg #[I0 (GZ g G q2 J I).kd,I0 (GZ g G q2 J I).tb,I0 (GZ g G q2 J I).cl,I0 (GZ g G q2 J I).lo,I0 (GZ g G q2 J I).hi,I0 (GZ g G q2 J I).bq,I0 (GZ g G q2 J I).ot]):=by
 have B:=OL 7 B0 K O;have d9:=Dw (g.tdiv 7) 3 B0
 have X:=OL 3 B0 U W;have ek:=Dw (I.tdiv 3) 3 B0
 have gy:=Dw g 7 B0;have ic:=Dw G 9 B0
 have dn:=Dw G 4 B0;have j3:=Dw q2 12 B0
 have j5:=Dw J 14 B0;have kv:=Dw I 3 B0
 refine Se func9 ntmps9 [0] ?_;intro u R;refine A1<|Ze (Bx #[_,_,_,_,_])<|AG fun bx=>Ze (Al N1 #[_,_,_,_,_,_,_])<|AG fun br=>A6<|Zb [1,2] ?_;refine Ch (e0:=[]) (H0:=[]) (fun e H=>∃(bq:Nat),(True)/\e=[(3,I1 bq)]/\H=[[(bq,.cells #[I0 ((1+CF g 7:Nat):Int),I0 (CF (g.tdiv 7) 3:Int),I0 0,I0 0,I0 0,I0 0,I0 0] 34 (0,0))]]) Wp ?hx_1 ?hy_1
 case hx_1=>
  refine Aw (n:=11) (0::1::3::7::0::16::48::119::255::0::1023::[]) 1668 AF AF V ?_;first|(refine Dn (D':=1) 0 (BK (j:=0) MY AE Y Y ?_) ?_;(focus (first|omega|decide|(simp;done))))|(refine Dn (D':=1) 0 (Cu (j:=0) MY AE Y Y ?_) ?_;(focus (first|omega|decide|(simp;done))))
  refine BE 1 V AH Y ?_;first|(refine Dn (D':=19) 4 (BK (j:=0) MY AE Y Y ?_) ?_;(focus (first|omega|decide|(simp;done))))|(refine Dn (D':=19) 4 (Cu (j:=0) MY AE Y Y ?_) ?_;(focus (first|omega|decide|(simp;done))))
  refine BE 5 V AH Y ?_;refine A3 6 V (tH (m:=g) (n:=7) Y Y B0 (IntWalk.i64_in _ (by have:=OL 7 B0 K O;omega)))<|Zz (l:=[2,9])<|B7 [true,false] [(5,(_,_))] V rfl (Zu [_,_] Y N4 Y V (Gb g 7 B0 B0 K O)) ?_ (fun _ _ h=>h.elim) ?_;·
   rintro _ _ ⟨rfl,rfl⟩;refine ⟨Zk (AY),?_⟩;first|(refine Dn (D':=127) 3 (Df (m:=1) Y Y ?_) ?_;(focus (omega)))|(refine Dn (D':=127) 3 (Ha Y Y (IntWalk.i64_in _ ?_)) ?_;(focus (omega)))
   refine Zz (l:=[7,9])<|B7 [false] [] V rfl (Zu [_,_] Y N4 Y V (Gb (g.tdiv 7) 3 B0 B0 B.1 B.2)) ?_ (fun _ _ h=>h.elim) ?_;·
    rintro _ _ ⟨rfl,rfl⟩;refine Bk<|A3 8 V (BM (vs:=[(0,I0 ((1+CF g 7:Nat):Int)),(1,I0 (CF (g.tdiv 7) 3:Int))]) (cs:=#[I0 ((1+CF g 7:Nat):Int),I0 (CF (g.tdiv 7) 3:Int),I0 0,I0 0,I0 0,I0 0,I0 0]) Y (AZ (pl:=#[(0,1),(1,1),(2,1),(3,1),(4,1),(5,1),(6,1)]) N1 CI (fun _=>by kernel_rfl) AF))<|Yw 9 1023 V (Al N1 #[_,_,_,_,_,_,_])<|AG fun bq=>Yw 10 2047 V (Xw CM #[I0 ((1+CF g 7:Nat):Int),I0 (CF (g.tdiv 7) 3:Int),I0 0,I0 0,I0 0,I0 0,I0 0])<|D0<|Ag<|Zn [3,1,2] ?_;refine BB (e':=[(3,_)]) (by exact ⟨bq,trivial,V,V⟩)
   refine B7 [true] [(5,(_,_))] V rfl (Al N1 #[_,_,_,_,_,_,_]) ?_ (fun _ _ h=>h.elim) Ah;rintro _ _ ⟨bq,rfl,rfl⟩;refine Bk<|Yw 7 767 V (Zu [_,_] Y N4 Y V (Gb (g.tdiv 7) 3 B0 B0 B.1 B.2))<|D0<|A3 8 V (BM (vs:=[(0,I0 ((1+CF g 7:Nat):Int)),(1,I0 (CF (g.tdiv 7) 3:Int))]) (cs:=#[I0 ((1+CF g 7:Nat):Int),I0 (CF (g.tdiv 7) 3:Int),I0 0,I0 0,I0 0,I0 0,I0 0]) Y (AZ (pl:=#[(0,1),(1,1),(2,1),(3,1),(4,1),(5,1),(6,1)]) N1 CI (fun _=>by kernel_rfl) AF))<|Yw 10 2047 V (Xw CM #[I0 ((1+CF g 7:Nat):Int),I0 (CF (g.tdiv 7) 3:Int),I0 0,I0 0,I0 0,I0 0,I0 0])<|D0<|Ag<|Zn [3,1,2] ?_;refine BB (e':=[(3,_)]) (by exact ⟨bq,trivial,V,V⟩)
  refine B7 [true,true] [(5,(_,_)),(1,(_,_))] V rfl (Al N1 #[_,_,_,_,_,_,_]) ?_ (fun _ _ h=>h.elim) Ah;rintro _ _ ⟨bq,rfl,rfl⟩;refine Bk<|Yz 2 3 631 [5,1] [true,false] [(5,(_,_))] V Y V rfl V rfl (Zu [_,_] Y N4 Y V (Gb g 7 B0 B0 K O)) ?_;rintro _ _ ⟨rfl,rfl⟩;refine ⟨Zk (AY),?_⟩;first|(refine Dn (D':=639) 3 (Df (m:=1) Y Y ?_) ?_;(focus (omega)))|(refine Dn (D':=639) 3 (Ha Y Y (IntWalk.i64_in _ ?_)) ?_;(focus (omega)))
  refine Yw 7 767 V (Zu [_,_] Y N4 Y V (Gb (g.tdiv 7) 3 B0 B0 B.1 B.2))<|D0<|A3 8 V (BM (vs:=[(0,I0 ((1+CF g 7:Nat):Int)),(1,I0 (CF (g.tdiv 7) 3:Int))]) (cs:=#[I0 ((1+CF g 7:Nat):Int),I0 (CF (g.tdiv 7) 3:Int),I0 0,I0 0,I0 0,I0 0,I0 0]) Y (AZ (pl:=#[(0,1),(1,1),(2,1),(3,1),(4,1),(5,1),(6,1)]) N1 CI (fun _=>by kernel_rfl) AF))<|Yw 10 2047 V (Xw CM #[I0 ((1+CF g 7:Nat):Int),I0 (CF (g.tdiv 7) 3:Int),I0 0,I0 0,I0 0,I0 0,I0 0])<|D0<|Ag<|Zn [3,1,2] ?_;refine BB (e':=[(3,_)]) (by exact ⟨bq,trivial,V,V⟩)
 rintro _ _ ⟨bq,_,rfl,rfl⟩;refine Zq<|A1<|Zh 0 CI V rfl AE Y<|Zl AH Y ?_;first|refine BZ (Cj (n:=1) Y Y) ?_|refine BZ (CO Y Y) ?_
 refine Z0<|Zx ?_;first|refine Av Y (fun k1=>?_) (fun k1=>?_)|refine AQ Y (fun k1=>?_) (fun k1=>?_)
 ·
  refine Zq<|Zg ?_;first|(refine BZ (BK (j:=1) MY AE Y Y ?_) ?_;(focus (first|omega|decide|(simp;done))))|(refine BZ (Cu (j:=1) MY AE Y Y ?_) ?_;(focus (first|omega|decide|(simp;done))))
  refine Zl AH Y ?_;refine Xr [_,_] Y N4 Y V (Gb G 9 B0 B0 Z af) ?_;first|(refine BZ (Df (m:=1) Y Y ?_) ?_;(focus (omega)))|(refine BZ (Ha Y Y (IntWalk.i64_in _ ?_)) ?_;(focus (omega)))
  refine Zh 3 CI rfl rfl AE Y<|Xe (Zs AE Y Y rfl (hi:=by first|omega|decide|(simp;done))) ?_;refine A6<|A1<|Zh 3 CI V rfl AE Y<|Zl AH Y ?_;refine Zh 4 CI rfl rfl AE Y<|Xe (Zs AE Y Y rfl (hi:=by first|omega|decide|(simp;done))) ?_;refine Z0<|Zn [2,3] ?_;refine Zx<|A1<|Zo Wh (AB (cs:=#[_,_,_,_,_,_,_]) F1 CM Y Wb (by exact BO V)) ?_;refine Xe (BL CM Y Y pS Wu (by exact EN rfl) Fi Wb (by exact BC _)) ?_;refine A6<|AJ<|Zt<|D7 V results9 Y Wh (Au F1 CM Wn (BO V)) (by
   refine ⟨?_,V⟩;unfold GZ;rw [As A0]<;>rfl)
 refine AC<|Zx<|Zq<|Zg ?_;first|(refine BZ (BK (j:=1) MY AE Y Y ?_) ?_;(focus (first|omega|decide|(simp;done))))|(refine BZ (Cu (j:=1) MY AE Y Y ?_) ?_;(focus (first|omega|decide|(simp;done))))
 refine Zl AH Y ?_;refine Xr [_,_] Y N4 Y V (Gb G 4 B0 B0 Z af) ?_;refine Zh 2 CI rfl rfl AE Y<|Xe (Zs AE Y Y rfl (hi:=by first|omega|decide|(simp;done))) ?_;refine A6<|Zq<|Zg ?_;first|(refine BZ (BK (j:=2) MY AE Y Y ?_) ?_;(focus (first|omega|decide|(simp;done))))|(refine BZ (Cu (j:=2) MY AE Y Y ?_) ?_;(focus (first|omega|decide|(simp;done))))
 refine Zl AH Y ?_;refine Xr [_,_] Y N4 Y V (Gb q2 12 B0 B0 ax bn) ?_;first|(refine BZ (CQ (n:=3) Y Y ?_ ?_) ?_;(focus (omega));(focus (omega)))|(refine BZ (FU Y Y (IntWalk.i64_in _ ?_)) ?_;(focus (omega)))
 refine Zh 3 CI rfl rfl AE Y<|Xe (Zs AE Y Y rfl (hi:=by first|omega|decide|(simp;done))) ?_;refine Z0<|Zn [1,2,3] ?_;refine Zx<|Zq<|Aw (n:=8) (0::1::0::4::12::31::63::127::[]) 144 AF AF V<|A3 0 V (AA (off:=3) CI V rfl AE Y)<|BE 1 V AH Y ?_;first|(refine Dn (D':=7) 2 (BK (j:=3) MY AE Y Y ?_) ?_;(focus (first|omega|decide|(simp;done))))|(refine Dn (D':=7) 2 (Cu (j:=3) MY AE Y Y ?_) ?_;(focus (first|omega|decide|(simp;done))))
 refine BE 3 V AH Y ?_;refine Yz 4 12 31 [3,1] [false,true] [(1,(_,_))] V Y V rfl V rfl (Zu [_,_] Y N4 Y V (Gb J 14 B0 B0 cu cO)) ?_;rintro _ _ ⟨rfl,rfl⟩;refine ⟨Zk (AY),?_⟩;first|(refine Dn (D':=63) 5 (Df Y Y ?_) ?_;(focus (omega)))|(refine Dn (D':=63) 5 (Ha Y Y (IntWalk.i64_in _ ?_)) ?_;(focus (omega)))
 refine A3 6 rfl (AA (off:=4) CI rfl rfl AE Y)<|Zz (l:=[7])<|B7 [false] [] rfl rfl (Zs AE Y Y rfl (hi:=by first|omega|decide|(simp;done))) ?_ (fun _ _ h=>h.elim) Ah;rintro _ _ ⟨rfl,rfl⟩;refine Bk<|Ag<|Zx<|Zb [1,2,3] ?_;refine Ch (e0:=[]) (H0:=[[(bq,.cells #[I0 ((1+CF g 7:Nat):Int),I0 (CF (g.tdiv 7) 3:Int),I0 (CF G 4:Int),I0 ((CF q2 12:Int) -3),I0 ((CF q2 12:Int) -3+(CF J 14:Int)),I0 0,I0 0] 34 (0,0))]]) (fun e H=>∃(w5:Int),(w5=if 3<=CF g 7 then((1+CF I 3:Nat):Int)else 0)/\e=[]/\H=[[(bq,.cells #[I0 ((1+CF g 7:Nat):Int),I0 (CF (g.tdiv 7) 3:Int),I0 (CF G 4:Int),I0 ((CF q2 12:Int) -3),I0 ((CF q2 12:Int) -3+(CF J 14:Int)),I0 w5,I0 0] 34 (0,0))]]) Wp ?hx_19 ?hy_19
 case hx_19=>
  refine A1<|Zh 0 CI V rfl AE Y<|Zl AH Y ?_;first|refine BZ (Gn (n:=4) Y Y) ?_|refine BZ (GV Y Y) ?_
  refine Z0<|Zx ?_;first|refine Av Y (fun k2=>?_) (fun k2=>?_)|refine AQ Y (fun k2=>?_) (fun k2=>?_)
  ·
   refine Zg ?_;first|(refine BZ (BK (j:=4) MY AE Y Y ?_) ?_;(focus (first|omega|decide|(simp;done))))|(refine BZ (Cu (j:=4) MY AE Y Y ?_) ?_;(focus (first|omega|decide|(simp;done))))
   refine Zl AH Y ?_;refine Xr [_,_] Y N4 Y V (Gb I 3 B0 B0 U W) ?_;first|(refine BZ (Df (m:=1) Y Y ?_) ?_;(focus (omega)))|(refine BZ (Ha Y Y (IntWalk.i64_in _ ?_)) ?_;(focus (omega)))
   refine Zh 5 CI rfl rfl AE Y<|Xe (Zs AE Y Y rfl (hi:=by first|omega|decide|(simp;done))) ?_;refine Z0<|Zn [1,2,3] ?_;refine BB (e':=[]) (by first|exact ⟨_,(As A0).symm,rfl,rfl⟩|exact ⟨0,(An A0).symm,rfl,rfl⟩)
  refine AC<|Zn [1,2,3] ?_;refine BB (e':=[]) (by first|exact ⟨_,(As A0).symm,rfl,rfl⟩|exact ⟨0,(An A0).symm,rfl,rfl⟩)
 rintro _ _ ⟨w5,gm,rfl,rfl⟩;refine Zb [1,2,3] ?_;refine Ch (e0:=[(1,_)]) (H0:=[[(bq,.cells #[I0 ((1+CF g 7:Nat):Int),I0 (CF (g.tdiv 7) 3:Int),I0 (CF G 4:Int),I0 ((CF q2 12:Int) -3),I0 ((CF q2 12:Int) -3+(CF J 14:Int)),I0 w5,I0 0] 34 (0,0))]]) (fun e H=>∃(w6:Int),(w6=if CF g 7=6 then(CF (I.tdiv 3) 3:Int)else 0)/\e=[]/\H=[[(bq,.cells #[I0 ((1+CF g 7:Nat):Int),I0 (CF (g.tdiv 7) 3:Int),I0 (CF G 4:Int),I0 ((CF q2 12:Int) -3),I0 ((CF q2 12:Int) -3+(CF J 14:Int)),I0 w5,I0 w6] 34 (0,0))]]) Wp ?hx_22 ?hy_22
 case hx_22=>
  refine A1<|Zh 0 CI V rfl AE Y<|Zl AH Y ?_;first|refine BZ (Cj (n:=7) Y Y) ?_|refine BZ (CO Y Y) ?_
  refine Z0<|Zx ?_;first|refine Av Y (fun k3=>?_) (fun k3=>?_)|refine AQ Y (fun k3=>?_) (fun k3=>?_)
  ·
   refine Zg ?_;first|(refine BZ (BK (j:=4) MY AE Y Y ?_) ?_;(focus (first|omega|decide|(simp;done))))|(refine BZ (Cu (j:=4) MY AE Y Y ?_) ?_;(focus (first|omega|decide|(simp;done))))
   refine Zl AH Y ?_;refine Zv (tH (m:=I) (n:=3) Y Y B0 (IntWalk.i64_in _ (by have:=OL 3 B0 U W;omega)))<|Xr [_,_] Y N4 Y V (Gb (I.tdiv 3) 3 B0 B0 X.1 X.2) ?_;refine Zh 6 CI rfl rfl AE Y<|Xe (Zs AE Y Y rfl (hi:=by first|omega|decide|(simp;done))) ?_;refine Z0<|Zn [2,3] ?_;refine BB (e':=[]) (by first|exact ⟨_,(As A0).symm,rfl,rfl⟩|exact ⟨0,(An A0).symm,rfl,rfl⟩)
  refine AC<|Zn [2,3] ?_;refine BB (e':=[]) (by first|exact ⟨_,(As A0).symm,rfl,rfl⟩|exact ⟨0,(An A0).symm,rfl,rfl⟩)
 rintro _ _ ⟨w6,gq,rfl,rfl⟩;refine A1<|Zo Wh (AB (cs:=#[_,_,_,_,_,_,_]) F1 CM Y Wb (by exact BO V)) ?_;refine Xe (BL CM Y Y pS Wu (by exact EN rfl) Fi Wb (by exact BC _)) ?_;refine A6<|AJ<|D7 V results9 Y Wh (Au F1 CM Wn (BO V)) (by
  refine ⟨?_,V⟩;unfold GZ;rw [An A0,<-gm,<-gq]<;>rfl)
variable{q:QM}
set_option maxHeartbeats 1000000 in
theorem Xm{p:B8}(K:Ee M (.slice p l.length cap) l)(g:En l)(W:l.length<=1000000)(a:Nat)(U:a<=l.length)(hq:BI q)(G:(CU (BQ (l.take a)) q).length<=100)(te:Int)(O:AK)(Z:Nat×Nat):BS prog 14 #[.slice p l.length cap,I0 (a:Int),.agg q.A95,I0 te] [[(4,.cells (Ez.map Cw).toArray O Z)],M] (fun w H'=>∃(mem:List A9) (J:B8) (I:Nat),G6 mem (.slice J (F3 (BQ (l.take a)) q).length I) (F3 (BQ (l.take a)) q)/\w= .agg #[I0 q.kd,I0 q.tb,I0 q.cl,I0 q.lo,I0 q.hi,I0 q.bq,I0 q.ot,I0 te,I0 (a:Int),.slice J (F3 (BQ (l.take a)) q).length I]/\H'=[mem,[(4,.cells (Ez.map Cw).toArray O Z)],M]):=by
 have d9:=mL;obtain ⟨p9,af,e9,⟨cu,cO⟩,_⟩:=id K;injection e9 with e91 e92 e93
 subst e91 e93;obtain ⟨hs,hn⟩:=g.rows a U;have X:=g.rowsOk a U
 obtain ⟨L,hL⟩:∃L,L=F3 (BQ (l.take a)) q:=⟨_,rfl⟩;rw [<-hL];refine Se func14 ntmps14 [0,1,2,3] ?_;intro u R;refine A1<|Ze (Bx q.A95)<|AG fun bq=>Ze (FL cX (cs:=#[I0 0,I0 0,I0 0,I0 0,I0 0,I0 0,I0 0,I0 0,I0 0,.slice none 0 0]) AF)<|AG fun be=>A6<|A1<|Zm Y<|Zm Y<|Zc [_,_] Y call19 Y V (pT K g W a U) ?_;rintro _ _ ⟨_,⟨vs,ss,rfl,hS,rfl⟩,rfl⟩;refine Zm Y<|Zd Y V<|Zd Y V<|Za Y<|A5 Y<|A1<|Zm Y<|Zo Wh (AB (cs:=#[_,_,_,_,_,_,_]) F1 CM Y B5 (by exact BO V)) ?_;refine Zc [_,_] Y call43 Y V (tm _ _ _ _ hS hs hn X q hq G O Z) ?_;rintro _ _ ⟨_,⟨vo,mem,rfl,B,rfl⟩,rfl⟩;rw [<-hL]at B;obtain ⟨J,I,rfl,ax,bn⟩:=B.form;refine Zm Y<|Zd Y V<|Zd Y V<|Za Y<|AW Y<|Zn [1,3,6,8,11] ?_;refine Zx<|A1<|Zo Wh (AB (cs:=#[_,_,_,_,_,_,_]) F1 CM Y B5 (by exact BO V)) ?_;refine Zm Y<|Zm Y<|Zm Y<|Zv (BM (vs:=[(0,.agg q.A95),(1,I0 te),(2,I0 (a:Int)),(3,.slice J L.length I)]) (cs:=#[I0 q.kd,I0 q.tb,I0 q.cl,I0 q.lo,I0 q.hi,I0 q.bq,I0 q.ot,I0 te,I0 (a:Int),.slice J L.length I]) Y (AZ (pl:=#[(0,7),(7,1),(8,1),(9,1)]) cX G1 (fun _=>by kernel_rfl) AF))<|Xe (BL HL Y Y Hi Wu (by exact EN rfl) Fi B0 (by exact BC _)) ?_;refine A6<|AJ<|D7 V results14 Y Wh (Au Tr HL Wn (BO V)) (by exact ⟨mem,J,I,B,V,V⟩)
def exQ:QM:=⟨3,0,1,10,19,0,0⟩
theorem U8:BI exQ:=by decide
variable{rs:List AU}
theorem Sr(g:BN rs)(B:rs.length<=2000)(t c:Nat)(lo hi:Int):(Ew rs t c lo hi).fits:=by
 have G:=JG g (t:Int) c;refine ⟨?_,?_,?_,Yu g B t c lo hi⟩
 · show(List.take _ (List.drop _ (BP rs (t:Int) c))).length<=_
   rw [CD,CH];omega
 · show(Js _ _ _).length<=_
   have h2:toT (BP rs (t:Int) c) c hi<=(BP rs (t:Int) c).length:=pA _ _;unfold Js;rw [B6,Wg];omega
 · show(YK rs).length<=_
   unfold YK;rw [B6];decide
theorem gD(G:BN rs)(B:rs.length<=2000)(q:QM):∀x∈F3 rs q,x.fits:=fun x g=>by
 unfold F3 at g;rcases DB.1 g with rfl|g
 · exact Sr G B _ _ _ _
 · split at g
   · obtain ⟨r,_,rfl⟩:=C6.1 g
     exact Sr G B _ _ _ _
   · cases g
structure MX(l:List BR):Prop where
 ok:En l
 len:l.length<=1000
 scan:∀a,a<=l.length->∀q,(CU (BQ (l.take a)) q).length<=100
theorem En.toB(h:En l)(B:l.length<=20):MX l:=⟨h,by omega,fun a g q=>qi h B g q⟩
variable{a:Nat}
theorem MX.start(h:MX l)(g:a<=l.length)(B:BI q):Es q (F3 (BQ (l.take a)) q)=some (CK (BQ (l.take a)) q):=dU (h.ok.rows a g).1 (h.ok.rows a g).2 (h.ok.rowsOk a g) B (h.scan a g q)
theorem MX.make_len(h:MX l)(g:a<=l.length)(q:QM):(F3 (BQ (l.take a)) q).length<=101:=by
 have B:=nM (BQ (l.take a)) q;have h2:=h.scan a g q
 omega
theorem MX.fits(h:MX l)(g:a<=l.length)(q:QM):∀x∈F3 (BQ (l.take a)) q,x.fits:=gD (h.ok.rows a g).1 (h.ok.rows a g).2 q
def qB(l:List BR)(P:Nat)(win:List BR):Prop:=win.length<=P/\win.map BR.pc=((l.take P).drop (P -win.length)).map BR.pc
theorem Rq(l:List BR)(P:Nat):qB l P []:=⟨C7 _,by
 rw [List.drop_eq_nil_of_le (by simp only [CD,Ks];omega)]⟩
variable{P:Nat}{r:BR}
theorem kg{W W':List BR}{x:BR}(h:qB l P W)(B:l[P]?=some x)(g:r.pc=x.pc)(G:Jn W W' r):qB l (P+1) W':=by
 obtain ⟨O,h2⟩:=h;have J:=(C4.1 B).1
 have K:(l.take P).length=P:=by rw [CD];omega
 unfold qB;rw [Bl B];rcases G with⟨rfl,I⟩|⟨rfl,I⟩
 · rw [BW,F2,show P+1 -(W.length+1)=P -W.length by omega,j0 A0,C0,C0,h2,MA,MA,g]
   exact ⟨by omega,V⟩
 · have e:((W++[r]).drop 1).length=64:=by rw [CH,BW,F2];omega
   have e1:(W++[r]).drop 1=W.drop 1++[r]:=j0 A0;have e2:(l.take P++[x]).drop (P+1 -64)=(l.take P).drop (P+1 -64)++[x]:=j0 A0
   rw [e,e1,e2,C0,C0,ka,h2,<-ka,cE,show P -W.length+1=P+1 -64 by omega,MA,MA,g];exact ⟨by omega,V⟩
theorem Pf{win:List BR}(h:qB l P win)(B:a<=P)(G:P -a<=win.length):(Ct (P:Int) (a:Int) win).map BR.pc=(Ot l a P).map BR.pc:=by
 obtain ⟨g,h2⟩:=h;unfold Ct Ot;rw [show((P:Int) -(a:Int)).toNat=P -a by omega,ka,h2,<-ka,cE,show P -win.length+(win.length -(P -a))=a by omega,fp]
structure IE(l:List BR)(P:Nat)(c:CZ):Prop where
 ok:c.ok
 pos:c.pos=(P:Int)
 le:P<=l.length
 win:qB l P c.win
 src:∀x∈c.its,∃a:Nat,x.base=(a:Int)/\a<=l.length/\x.L=F3 (BQ (l.take a)) x.q
theorem IE.at{l:List BR}(O:MX l){P:Nat}{c:CZ}(h:IE l P c){x:ItM}(W:x∈c.its):∃a:Nat,x.base=(a:Int)/\a<=l.length/\x.L=F3 (BQ (l.take a)) x.q/\(a<=P->P -a<=c.win.length/\x.res=CK (BQ (l.take P)) x.q/\jC x.q l a (P -a) x.since/\GU x.q (a:Int) 0 (CK (BQ (l.take a)) x.q,(a:Int)) (Ot l a P)=some (x.res,x.since))/\(P<=a->x.res=CK (BQ (l.take a)) x.q/\x.since=(a:Int)):=by
 obtain ⟨a,J,h2,K⟩:=h.src x W;have G:=h.ok.all x W
 obtain ⟨Z,B,g⟩:=G.run;rw [K,O.start h2 G.q]at B;injection B with B
 subst B;have I:=G.reach
 rw [h.pos,J]at g I;refine ⟨a,J,h2,K,fun U=>?_,fun U=>?_⟩
 · have e:=Pf h.win U A0
   rw [Oc e]at g;have X:=h.le
   obtain ⟨e1,e2⟩:=Pt G.q O.ok h2 (P -a) A0 _ g;rw [show a+(P -a)=P by omega]at e1;exact ⟨by omega,e1,e2,g⟩
 · rw [La A0]at g
   injection g with g
   exact ⟨(congrArg Prod.fst g).symm,(congrArg Prod.snd g).symm⟩
theorem IE.put(h:IE l P c)(J:d.ok)(g:c.like d){tn:Int}(I:a<=l.length){R:C9×Int×Bool}{b:Bool}(G:zj c d q tn (a:Int) (F3 (BQ (l.take a)) q) R b):IE l P d:=by
 refine ⟨J,g.pos.trans h.pos,h.le,by rw [g.win];exact h.win,fun x B=>?_⟩;rcases G with⟨_,rfl,_⟩|⟨_,_,_,⟨rfl,_⟩|⟨_,y,e,e1,e2,e3,_⟩⟩
 · exact h.src x B
 · exact h.src x B
 · rw [e]at B
   rcases C2.1 B with B|B
   · exact h.src x (FG.1 B).1
   · rw [C5.1 B,e1,e2,e3];exact ⟨a,rfl,I,rfl⟩
variable{q2:B8}{cap2:Nat}{zs:List Bm}
theorem IE.apply(J:MX l)(h:IE l P c)(B:l[P]?=some r)(g:H9 c d r.p r.cs q2 cap2 zs):IE l (P+1) d:=by
 have K:=(C4.1 B).1;have G:=(J.ok P r B).1.pos
 refine ⟨g.ok,by rw [g.pos,G];push_cast;rfl,by omega,kg (r:=⟨r.p,q2,cap2,r.cs⟩) h.win B rfl g.win,fun y U=>?_⟩;obtain ⟨_,x,O,hc,_⟩:=g.i1 y U;obtain ⟨_,_,e1,_,e2,_,_,I⟩:=J4 hc;rw [e1,e2,I];exact h.src x O
theorem IE.next(B:MX l)(h:IE l P c)(G:l[P]?=some r):EK r.p r.cs/\r.p=c.pos+1:=by
 have g:=(B.ok P r G).1;exact ⟨g.ok,by rw [g.pos,h.pos]⟩
theorem IE.part(h:IE l P c)(B:d.ok)(g:c.like d)(G:∀x∈d.its,x∈c.its):IE l P d:=⟨B,g.pos.trans h.pos,h.le,by rw [g.win];exact h.win,fun x I=>h.src x (G x I)⟩
theorem av(lt:Int->Int->Bool):∀(ms:List Int) (r:C9),(ms.foldl (fun r n=>(⟨r.rows,if !r.fnd||lt n r.val then n else r.val,true⟩:C9)) r).rows=r.rows
 |[],_=>rfl
 |n::ms,r=>by rw [V1,av lt ms]
theorem og(rs:List AU)(q:QM):(CK rs q).rows.length<=2*(CU rs q).length:=by
 have B:=Te q (CU rs q) (Fj rs q.ot);have g:∀lt ms,(Ea lt ms).rows=[]:=fun lt ms=>av lt ms C9.none
 unfold CK FW;split;· exact C7 _
 · split
   · exact C7 _
   · split
     · rw [g];exact C7 _
     · split
       · rw [g];exact C7 _
       · split
         · exact B
         · show(CU rs q).length<=_;omega
variable{n:Nat}
theorem Yp(O:MX l)(h:IE l P c)(W:BI q)(I:a<=l.length)(J:∀b,b<=l.length->(CK (BQ (l.take b)) q).rows.length<=n)(G:(c.pos -(a:Int)).toNat<=c.win.length):(BA q (CK (BQ (l.take a)) q) (a:Int) (Ct c.pos (a:Int) c.win)).1.rows.length<=n:=by
 cases hr:(BA q (CK (BQ (l.take a)) q) (a:Int) (Ct c.pos (a:Int) c.win)).2.2 with
 |false=>
  have g:BA q (CK (BQ (l.take a)) q) (a:Int) (Ct c.pos (a:Int) c.win)=(C9.none,0,false):=by
   unfold BA at hr⊢;split at hr;· cases hr
   · rfl
  rw [g];exact C7 _
 |true=>
  have g:=Lm hr;rw [h.pos]at g G⊢;by_cases B:a<=P
  · rw [Oc (Pf h.win B A0)]at g
    have U:=h.le;have h2:=(Pt W O.ok I (P -a) A0 _ g).1
    have K:(BA q (CK (BQ (l.take a)) q) (a:Int) (Ct (P:Int) (a:Int) c.win)).1=_:=h2;rw [K];exact J _ A0
  · rw [La A0]
    exact J a I
def cK(l:List BR)(P:Nat)(c:CZ)(q:QM)(a:Nat):Prop:=P -a<=c.win.length/\∃st,GU q (a:Int) 0 (CK (BQ (l.take a)) q,(a:Int)) (Ot l a P)=some st
theorem Q0(h:P<=a):cK l P c q a:=⟨by omega,(CK (BQ (l.take a)) q,(a:Int)),by
 rw [show Ot l a P=[] by unfold Ot;rw [show P -a=0 by omega,J0]];rfl⟩
def zN(l:List BR)(P:Nat)(c d:CZ)(q:QM)(tn:Int)(a:Nat)(n:Nat)(b:Bool):Prop:=
 (b=false/\d=c/\¬cK l P c q a)\/
 (b=true/\cK l P c q a/\(∀e∈d.PL,e∈c.PL\/e.sz<=1+(n:Int))/\
   ((d=c/\∃x∈c.its,x.key=str (Bn q)/\(a:Int)<=x.base)\/
    ((∀x∈c.its,x.key=str (Bn q)->x.base<(a:Int))/\∃y:ItM,d.its=(c.its.filter fun x=>x.key≠str (Bn q))++[y]/\y.q=q/\y.base=(a:Int)/\((y.tn=tn/\∀x∈c.its,x.key≠str (Bn q))\/∃x∈c.its,x.key=str (Bn q)/\y.tn=x.tn))))
theorem Mf(h:IE l P c):((c.pos -(a:Int)).toNat<=c.win.length/\(BA q (CK (BQ (l.take a)) q) (a:Int) (Ct c.pos (a:Int) c.win)).2.2=true)↔cK l P c q a:=by
 rw [h.pos];unfold cK;rw [show((P:Int) -(a:Int)).toNat=P -a by omega];by_cases g:P -a<=c.win.length
 · have e:GU q (a:Int) 0 (CK (BQ (l.take a)) q,(a:Int)) (Ct (P:Int) (a:Int) c.win)=GU q (a:Int) 0 (CK (BQ (l.take a)) q,(a:Int)) (Ot l a P):=by
    by_cases G:a<=P
    · exact Oc (Pf h.win G g)
    · rw [La A0,show Ot l a P=[] by unfold Ot;rw [show P -a=0 by omega,J0]]
   unfold BA;rw [e];constructor
   · rintro ⟨_,h2⟩
     refine ⟨g,?_⟩;split at h2;· rename_i st h3;exact ⟨st,h3⟩
     · cases h2
   · rintro ⟨_,st,h2⟩
     rw [h2];exact ⟨g,V⟩
 · exact ⟨fun B=>absurd B.1 g,fun B=>absurd B.1 g⟩
theorem gK(G:MX l)(h:IE l P c)(I:l[P]?=some r)(K:Cv ME (.slice r.q r.cs.length r.cap) r.cs):BS prog 16 #[.pointer (some ⟨c.cp,0,none⟩),.agg #[I0 r.p,.slice r.q r.cs.length r.cap]] [c.mem,ME] (fun w H'=>∃(d:CZ) (q2:B8) (cap2:Nat) (zs:List Bm) (tv:A4) (s:List A9),w= .tuple #[tv,I0 0]/\IE l (P+1) d/\H9 c d r.p r.cs q2 cap2 zs/\Row 9 tv (zs.map Value.string) s/\H'=[d.mem,ME,s]):=by
 obtain ⟨J,h2⟩:=h.next G I;refine (tx h.ok K J h2).mono ?_;rintro w H' ⟨d,q2,cap2,zs,tv,s,rfl,B,g,rfl⟩;exact ⟨d,q2,cap2,zs,tv,s,V,h.apply G I B,B,g,V⟩
theorem rX{p:B8}(h:Ee M (.slice p l.length cap) l){i:Nat}(I:l[i]?=some r):Cv M (.slice r.q r.cs.length r.cap) r.cs/\∃g off cur T zz,p=some ⟨g,off,none⟩/\(g,Obj.cells cur T zz)∈M/\off+i*2+2<=cur.size/\cur.extract (off+i*2) (off+i*2+2)=#[I0 r.p,.slice r.q r.cs.length r.cap]:=by
 obtain ⟨J,B,e,_,G⟩:=h;injection e with e1 e2 e3
 subst e1 e3;exact G i r I
theorem Y4(g:1<=q.kd/\q.kd<=4)(r:C9)(cs:List Chg):(Bb q r cs).2.2=true:=by
 obtain ⟨G,B⟩:=SX g cs r;unfold Bb;rw [B]
theorem uN{K:Bm}(g:∀k,k∈zs↔k=K)(h2:zs.Nodup):zs=[K]:=by
 cases zs with
 |nil=>exact absurd ((g K).2 rfl) B4
 |cons a l=>
  have B:=(g a).1 (E3 ..);subst B;cases l with
  |nil=>rfl
  |cons b l=>
   have G:=(g b).1 B4;subst G;simp at h2
variable{e:AK}{xs:List A4}{s:List A9}
theorem xW(h:Row e v xs s)(B:0<xs.length):∃g cap cur z,v=I2 g xs.length cap/\s=[(g,.cells cur e z)]/\xs.length<=cur.size/\∀i,i<xs.length->cur[i]?=xs[i]?:=by
 rcases h with⟨_,h0,_⟩|⟨g,cap,cur,z,rfl,rfl,h1,h2,h3,h4,h5⟩
 · rw [h0]at B;cases B
 · refine ⟨g,cap,cur,z,rfl,rfl,by omega,fun i hi=>?_⟩
   have h:=congrArg (fun l=>l[i]?) h4;simp only [HH,As hi]at h;simpa using h
theorem rM(g:Nat)(v:A4):Row e (I2 g 1 1) [v] [(g,.cells #[v] e (0,0))]:= .inr ⟨g,1,#[v],(0,0),rfl,rfl,CT 1,by decide,rfl,rfl,BC _⟩
theorem xI(h:c.okb)(G:c.ns=1)(hi:c.its=[x])(I:∀e∈c.PL,e.sz<=1):Du c.PL ((0:Nat):Int)=1:=by
 have h2:(c.PL.map (·.key)).Perm (c.its.map ItM.key):=(N6 h.pool.keys h.its.keys).2 h.pk;have B:=h2.length_eq
 rw [B6,B6,hi]at B
 match hP:c.PL,B with
 |[e],_=>
  have g:e∈c.PL:=by rw [hP];simp
  have J:=h.pool.te e g;have K:=h.pool.sz e g
  have O:=I e g;unfold Du;rw [MA,List.sum_singleton,As A0];omega
def exD(k a b:Int):Chg:=⟨0,k,false,⟨0,0,0⟩,true,⟨a,b,7⟩⟩
def bA(p1 p2:B8):List BR:=[⟨1,p1,1,[exD 5 10 2]⟩,⟨2,p2,1,[exD 6 11 9]⟩]
theorem xx{k a b:Int}(g:1<=p/\p<=10000)(h:(exD k a b).ok):EK p [exD k a b]:=⟨g,⟨CT _,by show 1<=8;decide⟩,fun i c hc=>by
 match i,hc with
 |0,hc=>injection hc with hc;rw [<-hc];exact h
 |i+1,hc=>simp at hc,fun i b c B hc=>by simp at hc⟩
theorem kJ{k a b:Int}(B:1<=p+1/\p+1<=10000)(h:(exD k a b).ok)(g:GQ rs (exD k a b))(hz:Gt rs [exD k a b]<=2000):KZ rs p (p+1) [exD k a b]:=⟨xx B h,rfl,fun c hc=>by rw [C5.1 hc];exact g,hz⟩
def exS:Nat->List AU
 |0=>[]
 |1=>[⟨0,5,⟨10,2,7⟩⟩]
 |_=>[⟨0,5,⟨10,2,7⟩⟩,⟨0,6,⟨11,9,7⟩⟩]
theorem WN(g B:B8):BQ ((bA g B).take 0)=exS 0/\BQ ((bA g B).take 1)=exS 1/\BQ ((bA g B).take 2)=exS 2:=⟨rfl,by kernel_rfl,by kernel_rfl⟩
theorem yu(B G:B8):En (bA B G):=fun i r g=>by
 obtain ⟨h0,I,_⟩:=WN B G
 match i,g with
 |0,g=>injection g with g;subst g;rw [h0];exact ⟨kJ (p:=0) B0 B0 (by unfold GQ;decide) B0,by show 1<=3;decide⟩
 |1,g=>injection g with g;subst g;rw [I];exact ⟨kJ (p:=1) B0 B0 (by unfold GQ;decide) B0,by show 1<=3;decide⟩
 |i+2,g=>simp [bA]at g
structure rS(l:List BR):Prop where
 b:MX l
 len:l.length=2
 e2:(CK (BQ (l.take 2)) exQ).val=2
 e1:(CK (BQ (l.take 1)) exQ).val=1
 two:∃r,l[1]?=some r/\(∃ch∈r.cs,Cn exQ ch=true)/\NV exQ r=true
theorem UF(rs:List AU):(CK rs exQ).rows=[]:=rfl
theorem vM(g B:B8):rS (bA g B):=by
 obtain ⟨_,G,h2⟩:=WN g B;refine ⟨(yu g B).toB (by show 2<=20;decide),rfl,by rw [h2];decide,by rw [G];decide,_,rfl,⟨exD 6 11 9,.head _,by decide⟩,?_⟩;exact (by decide:[exD 6 11 9].any (Da exQ)=true)
theorem WJ(hi:c.its=[])(g:c.PL=[]){tn:Int}(G:P<=a){b:Bool}(B:zN l P c d q tn a n b):b=true/\∃y:ItM,d.its=[y]/\y.q=q/\y.key=str (Bn q)/\y.base=(a:Int)/\∀e∈d.PL,e.sz<=1+(n:Int):=by
 rcases B with⟨_,_,h⟩|⟨h1,_,h2,⟨_,x,hx,_⟩|⟨_,y,h3,h4,h5,_⟩⟩
 · exact absurd (Q0 G) h
 · rw [hi]at hx;cases hx
 · refine ⟨h1,y,by rw [h3,hi];rfl,h4,by unfold ItM.key;rw [h4],h5,fun e I=>?_⟩
   rcases h2 e I with h9|h9
   · rw [g]at h9;cases h9
   · exact h9
theorem rH(h:Row e v xs s)(B:xs.length=n)(h0:0<n):∃g cap cur z,v=I2 g n cap/\s=[(g,.cells cur e z)]/\n<=cur.size/\∀i,i<n->cur[i]?=xs[i]?:=by
 subst B;exact xW h h0
theorem jW(h:Row e v xs s)(g:xs.length=n):∃p cap,v= .slice p n cap:=by
 subst g;obtain ⟨p,cap,h⟩:=h.form;exact ⟨p,cap,h⟩
theorem s8(g:H9 c d p cs q2 cap2 zs){y:ItM}(hi:c.its=[y])(G:Y8 cs y)(B:y.base<p):zs=[y.key]:=uN (fun k=>by
 rw [g.z1,hi];constructor;· rintro ⟨x,I,rfl,_⟩;rw [C5.1 I]
 · rintro rfl;exact ⟨y,by simp,rfl,G,B⟩) g.z2
theorem wh(g:H9 c d p cs q2 cap2 zs)(B:∀x∈c.its,p<=x.base):zs=[]:=rh.2 fun k G=>by
 obtain ⟨x,I,_,_,h⟩:=(g.z1 k).1 G;have:=B x I
 omega
theorem kC(K:H9 c d p cs q2 cap2 zs){y:ItM}(hi:c.its=[y])(Z:p -64<=y.base)(hk:1<=y.q.kd/\y.q.kd<=4):∃B,d.its=[B]/\B.q=y.q/\B.key=y.key/\B.base=y.base:=by
 obtain ⟨B,I,hc⟩:=K.i2 y (by rw [hi];simp) Z fun _ _=>Y4 hk _ _;have O:=K.ok.its.keys
 have g:∀w∈d.its,w=B:=fun w U=>by
  obtain ⟨_,x,W,G,_⟩:=K.i1 w U;rw [hi]at W;rw [C5.1 W]at G;exact Gd O U I ((MI G).trans (MI hc).symm)
 obtain ⟨_,_,e1,_,e2,_⟩:=J4 hc;refine ⟨B,?_,e1,MI hc,e2⟩;have J:=O
 match hE:d.its,I,J with
 |[w],_,_=>rw [g w (by rw [hE];simp)]
 |w::w2::L,_,J=>
  have X:=g w (by rw [hE];simp);have h2:=g w2 (by rw [hE];simp)
  rw [X,h2]at J;simp at J
def shT(sh:List Int)(t:Int):Int:=(sh[t.toNat]?).getD 0
theorem X9(g:k<sh.length):sh[k]?=some (shT sh (k:Int)):=by
 unfold shT;rw [Up,BT g];rfl
def MF(sh:List Int)(L:List Bh)(t sz:Int)(x:Bh):Bool:=
 if shT sh t -sz<Du L t then decide (x.te=t)else decide (x.te≠t)&&decide (shT sh x.te<=Du L x.te -x.sz)
def II(sh:List Int)(L:List Bh)(t sz:Int):Option Bh:=L.find? (MF sh L t sz)
def q4:Option Bh->A4
 |some e=>pV e.b
 |none=> .pointer none
def Eb(sh:List Int)(cap t sz:Int):Nat->List Bh->List Bh×List Bh
 |0,L=>(L,[])
 |n+1,L=>if cap -FI L<sz then match II sh L t sz with
   |none=>(L,[])
   |some x=>((Eb sh cap t sz n (L.filter fun y=>y.key≠x.key)).1,x::(Eb sh cap t sz n (L.filter fun y=>y.key≠x.key)).2)
  else(L,[])
theorem L6{A B:List Bh}{x:Bh}(h:((A++x::B).map (·.key)).Nodup):(A++x::B).filter (fun y=>y.key≠x.key)=A++B:=by
 rw [C0,Dg,Ge,HJ]at h;rw [Hj,Wr,An B4];congr 1;· refine cT.2 fun y g=>D2 fun e=>h.2.2 _ (Dd g) _ (E3 ..) e
 · refine cT.2 fun y g=>D2 fun e=>h.2.1.1 (e▸Dd g)
variable{sz t:Int}
theorem iF{cap:Int}{A B:List Bh}{x:Bh}(G:((A++x::B).map (·.key)).Nodup)(g:cap -FI (A++x::B)<sz)(h2:II sh (A++x::B) t sz=some x):
 Eb sh cap t sz (A++x::B).length (A++x::B)=((Eb sh cap t sz (A++B).length (A++B)).1,x::(Eb sh cap t sz (A++B).length (A++B)).2):=by
 rw [show(A++x::B).length=(A++B).length+1 by simp;omega];rw [Eb,As g,h2];simp only [L6 G]
variable{L:List Bh}
theorem iG{cap:Int}(h2:II sh L t sz=none):Eb sh cap t sz L.length L=(L,[]):=by
 cases hL:L.length with
 |zero=>rfl
 |succ n=>
  rw [Eb,h2];split<;>rfl
theorem WO{cap:Int}(g:¬cap -FI L<sz):Eb sh cap t sz L.length L=(L,[]):=by
 cases hL:L.length with
 |zero=>rfl
 |succ n=>rw [Eb,An g]
theorem jb{nx bf:Nat->A4}{r:Nat}{l:List Nat}(h:H8 nx bf r l)(G:k<=l.length):∃a c,(r::l)[k]?=some a/\(l++[r])[k]?=some c/\nx a=pV c:=by
 have B:=Hz r l r;have h2:=JB r l r
 have I:(EX r l r).length=l.length+1:=by
  have:=congrArg List.length B;simpa using this
 obtain ⟨q,g⟩:∃q,(EX r l r)[k]?=some q:=⟨_,BT A0⟩;refine ⟨q.1,q.2,?_,?_,(h q (DO g)).1⟩;· rw [<-B,DQ,g];rfl
 · rw [<-h2,DQ,g];rfl
def zM(z':BX)(e:Bh)(z:BX):Prop:=∃p n,z'.bf e.b=pV p/\z'.nx e.b=pV n/\p∈z'.bl/\n∈z'.bl/\z={z' with nx:=Cr z'.nx p (pV e.b),bf:=Cr z'.bf n (pV e.b),fr:=z'.fr -1*e.sz}
def UN(ns mb:Nat):List Bh->BX->List Bh->BX->List Bh->Prop
 |[],z,L,z0,L0=>z=z0/\L=L0
 |y::ys,z,L,z0,L0=>∃A B zb,L=A++B/\zM z y zb/\(∃es ck lm su,CL zb ns (A++y::B) mb es ck lm su)/\UN ns mb ys zb (A++y::B) z0 L0
variable{z:BX}{ns mb ck:Nat}{es:Array MapEntry}{lm:List (Bm×A4)}{su:List A9}
theorem Yy{G:Array MapEntry}{B:Nat}{g:List (Bm×A4)}{I:List A9}(h:CL z ns L mb es ck lm su)(J:Ck (fun k:Bm=>Value.string k) G B g)(K:∀p,p∈g↔∃e∈L,p=(e.key,pV e.b))(O:Row 3 z.us ((List.range ns).map fun k:Nat=>Value.int .i64 (Du L (k:Int))) I):CL z ns L mb G B g I:=
 ⟨h.sub,h.ring,h.mv,J,K,h.keys,O,h.te,h.sz,h.free,h.room,h.sh,h.cap⟩
theorem VE{f:Nat->A4}{w:A4}(h:f a=v):Cr (Cr f a w) a v=f:=by
 funext x;unfold Cr;split;· rename_i e;rw [e,h]
 · rfl
theorem CL.free_le(h:CL z ns L mb es ck lm su):z.fr<=1000000:=by
 have g:=h.free;have h2:=h.cap;have B:=Pg h.sz 0
 omega
theorem QJ{K:Bm}(h:Dq K lm=some v):(K,v)∈lm:=by
 unfold Dq at h;obtain ⟨p,g,e⟩:=ln.1 h;have B:=dj g
 have h2:=fk g;have G:p.1=K:=by simpa using h2
 rw [<-G,<-e];exact B
theorem CL.find(h:CL z ns L mb es ck lm su)(K:Bm):(Dq K lm=Option.none/\∀e∈L,e.key≠K)\/∃A y B,L=A++y::B/\y.key=K/\Dq K lm=some (pV y.b):=by
 by_cases I:∃e∈L,e.key=K
 · obtain ⟨y,J,g⟩:=I
   obtain ⟨A,B,e⟩:=Wf J;exact .inr ⟨A,y,B,e,g,by rw [<-g];exact h.get J⟩
 · have G:∀e∈L,e.key≠K:=fun e O g=>I ⟨e,O,g⟩
   exact .inl ⟨h.none G,G⟩
instance:Inhabited Bh:=⟨⟨0,⟨#[]⟩,0,0⟩⟩
def pt(M:List A9)(v:A4)(ls:List Bh):Prop:=∃p cap,v= .slice p ls.length cap/\True/\∀(i:Nat) (x:Bh),ls[i]?=some x->∃g off cur T zz,p=some ⟨g,off,none⟩/\(g,Obj.cells cur T zz)∈M/\cur[off+i]?=some (pV x.b)
theorem oh{T:AK}{ls:List Bh}(h:Row T v (ls.map fun e=>pV e.b) s):pt s v ls:=by
 rcases h with⟨hv,h0,_⟩|⟨g,cap,cur,z,hv,hs,h1,h2,h3,h4,_⟩
 · have G:ls=[]:=by simpa using h0
   subst G;obtain ⟨p,c,e⟩:∃p c,v= .slice p 0 c:=by exact ⟨none,0,hv⟩
   exact ⟨p,c,e,trivial,fun i x B=>by simp at B⟩
 · rw [B6]at hv h1
   subst hs;refine ⟨some ⟨g,0,none⟩,cap,hv,trivial,fun i x B=>⟨g,0,cur,T,z,V,C5.2 V,?_⟩⟩;have hi:=(C4.1 B).1
   have I:=congrArg (fun l=>l[i]?) h4;simp only [HH,B6,As hi,DQ,B]at I;rw [D4];simpa using I
theorem nO(z:BX)(G:z.bl.Nodup){e:Bh}(I:e∈z.E){p:Nat}(K:p∈z.bl)(J:n∈z.bl)(g:z.bf e.b=pV p)(B:z.nx e.b=pV n):BS prog 137 #[.pointer (some ⟨e.b,0,none⟩)] [z.S] (fun v H'=>v=undef/\H'=[({z with nx:=Cr z.nx p (pV e.b),bf:=Cr z.bf n (pV e.b)}:BX).S]):=by
 obtain ⟨c1,Z,O,s1,W⟩:=z.upd G K;obtain ⟨c2,T2,U,s2,X⟩:=BX.upd ({z with nx:=Cr z.nx p (pV e.b)}:BX) G J;refine Se func137 ntmps137 [0] ?_;intro u R;refine Aw (n:=16) (0::1::3::7::0::16::48::112::0::0::511::1535::3583::8191::16383::32767::[]) 36864 AF AF V<|A3 0 V (AO Y)<|A3 1 V (Ak Y V)<|A3 2 V (AA (off:=3) HE V rfl H4 Y)<|CV (D':=15) 3 V rfl V (Dy Wo (z.node I)) (BD SU Y (congrArg some g)) ?_;refine A3 4 V (AO Y)<|A3 5 V (Ak Y V)<|A3 6 V (AA (off:=4) HE V rfl H4 Y)<|CV (D':=255) 7 V rfl V (Dy Wo (z.node I)) (BD SU Y (congrArg some B)) ?_;refine A3 8 V (AO Y)<|A3 9 V (AO Y)<|A3 10 V (Ak Y V)<|A3 11 V (AA (off:=4) HE V rfl H4 Y)<|Zz (l:=[12])<|B7 [false,false] [] V rfl (Fh H4 Y Y V Wo (O) (by exact (W _).1) A0 (by exact BC _)) ?_ (fun _ _ h=>h.elim) Ah;rintro _ _ ⟨rfl,rfl⟩;refine Bk<|A3 13 V (Ak Y V)<|A3 14 V (AA (off:=3) HE V rfl H4 Y)<|Zz (l:=[15])<|B7 [] [] V rfl (Fh H4 Y Y V Wo (U) (by exact (X _).2) A0 (by exact BC _)) ?_ (fun _ _ h=>h.elim) Ah;rintro _ _ ⟨rfl,rfl⟩;refine Bk<|Ag<|Cc V results137 (by exact ⟨V,V⟩)
theorem lY{nx bf:Nat->A4}{r:Nat}{l1 l2:List Nat}{x:Nat}(Z:(r::(l1++x::l2)).Nodup)(h:H8 nx bf r (l1++x::l2)):∃p n,p∈r::(l1++l2)/\n∈r::(l1++l2)/\bf x=pV p/\nx x=pV n/\nx p=pV x/\bf n=pV x/\H8 (Cr nx p (pV n)) (Cr bf n (pV p)) r (l1++l2):=by
 obtain ⟨p,n,O,h2,J,K,U⟩:=Ye Z h;obtain ⟨A,g,W⟩:=Kn r l1;obtain ⟨n',B,X⟩:=TF l2 r;have e1:EX r (l1++x::l2) r=A++(g,x)::(x,n')::B:=by rw [KG,W,X];simp
 have G:=h (g,x) (by rw [e1];simp);have I:=h (x,n') (by rw [e1];simp)
 have inj:∀{a b:Nat},pV a=pV b->a=b:=fun e=>by unfold pV at e;injection e with e;injection e with e;injection e
 obtain rfl:g=p:=inj (G.2.symm.trans J);obtain rfl:n'=n:=inj (I.1.symm.trans K);exact ⟨g,n',O,h2,J,K,G.1,I.2,U⟩
set_option maxHeartbeats 1000000 in
theorem VH{K O:List Bh}{e:Bh}(g:CL z ns (K++e::O) mb es ck lm su)(hd:z.bl.Nodup):BS prog 81 #[.pointer (some ⟨z.r,0,none⟩),.pointer (some ⟨e.b,0,none⟩)] [z.S,[(mb,.map es ck)],su] (fun v H'=>v=undef/\∃J W U ic af,(J.r=z.r/\J.cap=z.cap/\J.E=z.E/\J.sh=z.sh)/\zM J e z/\CL J ns (K++O) mb W U ic af/\H'=[J.S,[(mb,.map W U)],af]):=by
 have he:e∈z.E:=g.sub e B4;have B:=g.nodup hd
 obtain ⟨p,n,hp,hn,X,Z,G⟩:=lY (l1:=K.map (·.b)) (l2:=O.map (·.b)) (x:=e.b) (by simpa using B) (by simpa using g.ring);obtain ⟨gq,dn,G⟩:=G;have I:∀q,q∈z.r::(K.map (·.b)++O.map (·.b))->q∈z.bl:=fun q hq=>by
  rcases DB.1 hq with rfl|hq
  · exact E3 ..
  · rw [<-C0]at hq
    obtain ⟨x,hx,rfl⟩:=C6.1 hq;exact E7 _ (Dd (g.sub x (by rcases C2.1 hx with h|h<;>simp [h])))
 rw [<-C0]at G;have l9:=g.te e B4
 obtain ⟨k,hk⟩:∃k:Nat,e.te=(k:Int):=⟨e.te.toNat,by omega⟩;have cu:k<ns:=by omega
 have o8:=g.use (k:Int);have l8:=g.size (e:=e) B4
 have kv:=g.room;have l5:=g.free_le
 have gm:e.b≠p:=fun h9=>by
  rw [<-h9,<-C0]at hp;rw [C0,Dg,HJ,Ge,HJ]at B;rcases DB.1 hp with h8|h8
  · exact B.1 (by rw [<-h8];simp)
  · rw [C0]at h8
    rcases C2.1 h8 with h8|h8
    · exact B.2.2.2 _ h8 _ (E3 ..) rfl
    · exact B.2.2.1.1 h8
 have d9:e.b≠n:=fun h9=>by
  rw [<-h9,<-C0]at hn;rw [C0,Dg,HJ,Ge,HJ]at B;rcases DB.1 hn with h8|h8
  · exact B.1 (by rw [<-h8];simp)
  · rw [C0]at h8
    rcases C2.1 h8 with h8|h8
    · exact B.2.2.2 _ h8 _ (E3 ..) rfl
    · exact B.2.2.1.1 h8
 refine Se func81 ntmps81 [0,1] ?_;intro u R;refine A1<|Zm Y<|Zc [_] Y call131 Y V (Qb z hd he (I p hp) (I n hn) X Z) ?_;rintro _ _ ⟨_,⟨rfl,rfl⟩,rfl⟩;refine A6<|Zq<|Aw (n:=9) (0::1::3::7::0::16::48::112::255::[]) 256 AF AF V<|A3 0 V (AO Y)<|A3 1 V (Ak Y V)<|A3 2 V (AA (off:=8) HS V rfl ey Y)<|CV (D':=15) 3 V rfl V (Dy Wo ((BX.root ({z with nx:=Cr z.nx p (pV n),bf:=Cr z.bf n (pV p)}:BX)))) (BD isAgg154 Y (congrArg some g.mv)) ?_;refine A3 4 V (AO Y)<|A3 5 V (Ak Y V)<|A3 6 V (AA (off:=0) HE V rfl Fk Y)<|CV (D':=255) 7 V rfl V (Dy Wo ((BX.node ({z with nx:=Cr z.nx p (pV n),bf:=Cr z.bf n (pV p)}:BX) he))) (BD HO Y Ax) ?_;refine Yw 8 511 V (K3 (EG HG (D:=fun _=>True)) gi g.map (fun _ _=>trivial) (trivial) Y Y Wo) ?_;rintro _ _ ⟨rfl,bn,ax,j3,cO,ek,rfl⟩;refine Ag<|Zx<|Zg<|Zm Y<|Zm Y<|Zc [_,_,_] Y call86 Y rfl (LC ({z with nx:=Cr z.nx p (pV n),bf:=Cr z.bf n (pV p)}:BX) hd he (.inr rfl) g.used hk (k:=k) (x:=Du (K++e::O) (k:Int)) (by rw [DQ,T0 cu];rfl) A0 A0 (by show _<=z.fr/\z.fr<=_;omega)) ?_;rintro _ _ ⟨_,⟨rfl,j5,gy,rfl⟩,rfl⟩;refine Z0<|Cc V results81 (by
  refine ⟨V,({z with nx:=Cr z.nx p (pV n),bf:=Cr z.bf n (pV p),fr:=z.fr -(-1)*e.sz}:BX),bn,ax,j3,j5,⟨V,V,V,V⟩,⟨p,n,(EP _ _ d9).trans X,(EP _ _ gm).trans Z,I p hp,I n hn,?_⟩,Sv g G cO ek hk gy,V⟩;show z={z with nx:=Cr (Cr z.nx p (pV n)) p (pV e.b),bf:=Cr (Cr z.bf n (pV p)) n (pV e.b),fr:=z.fr -(-1)*e.sz -1*e.sz}
  rw [VE gq,VE dn,show z.fr -(-1)*e.sz -1*e.sz=z.fr by omega])
set_option maxHeartbeats 1000000 in
theorem pW{I J:List Bh}{e:Bh}(g:CL z ns (I++J) mb es ck lm su)(hd:z.bl.Nodup){zb:BX}(hU:zM z e zb)(G:∃es ck lm su,CL zb ns (I++e::J) mb es ck lm su):BS prog 84 #[.pointer (some ⟨z.r,0,none⟩),.pointer (some ⟨e.b,0,none⟩)] [z.S,[(mb,.map es ck)],su] (fun v H'=>v=undef/\∃W O ek Z,CL zb ns (I++e::J) mb W O ek Z/\H'=[zb.S,[(mb,.map W O)],Z]):=by
 obtain ⟨p,n,bn,cO,hp,hn,K⟩:=hU;obtain ⟨j5,j3,l9,o8,G⟩:=G;have he:e∈z.E:=by have h9:=G.sub e B4;rw [K]at h9;exact h9
 have l5:=G.te e B4;obtain ⟨k,hk⟩:∃k:Nat,e.te=(k:Int):=⟨e.te.toNat,by omega⟩;have X:k<ns:=by omega
 have l8:=g.use (k:Int);have kv:=G.size (e:=e) B4
 have gy:=g.room;have ic:=g.free_le
 refine Se func84 ntmps84 [0,1] ?_;intro u R;refine A1<|Zm Y<|Zc [_] Y call137 Y V (nO z hd he hp hn bn cO) ?_;rintro _ _ ⟨_,⟨rfl,rfl⟩,rfl⟩;refine A6<|Zq<|Aw (n:=10) (0::1::3::7::0::16::48::112::0::511::[]) 512 AF AF V<|A3 0 V (AO Y)<|A3 1 V (Ak Y V)<|A3 2 V (AA (off:=8) HS V rfl ey Y)<|CV (D':=15) 3 V rfl V (Dy Wo ((BX.root ({z with nx:=Cr z.nx p (pV e.b),bf:=Cr z.bf n (pV e.b)}:BX)))) (BD isAgg154 Y (congrArg some g.mv)) ?_;refine A3 4 V (AO Y)<|A3 5 V (Ak Y V)<|A3 6 V (AA (off:=0) HE V rfl Fk Y)<|CV (D':=255) 7 V rfl V (Dy Wo ((BX.node ({z with nx:=Cr z.nx p (pV e.b),bf:=Cr z.bf n (pV e.b)}:BX) he))) (BD HO Y Ax) ?_;refine A3 8 V (AO Y)<|Zz (l:=[9])<|B7 [false,false] [] V rfl (FJ (EG HG (D:=fun _=>True)) gi g.map (fun _ _=>trivial) (trivial) Y Y Y Wo) ?_ (fun _ _ h=>h.elim) Ah;rintro _ _ ⟨rfl,ax,af,gm,cu,d9,rfl⟩;refine Bk<|Ag<|Zx<|Zg<|Zm Y<|Zm Y<|Zc [_,_,_] Y call86 Y rfl (LC ({z with nx:=Cr z.nx p (pV e.b),bf:=Cr z.bf n (pV e.b)}:BX) hd he (.inl rfl) g.used hk (k:=k) (x:=Du (I++J) (k:Int)) (by rw [DQ,T0 X];rfl) A0 A0 (by show _<=z.fr/\z.fr<=_;omega)) ?_;rintro _ _ ⟨_,⟨rfl,gq,dn,rfl⟩,rfl⟩;refine Z0<|Cc V results84 (by
  refine ⟨rfl,ax,af,gm,gq,Yy G cu (fun q=>?_) ?_,by rw [K]⟩
  · rw [d9,g.mem]
    constructor
    · rintro (rfl|⟨⟨x,hx,rfl⟩,_⟩)
      · exact ⟨e,by simp,rfl⟩
      · exact ⟨x,by rcases C2.1 hx with h|h<;>simp [h],rfl⟩
    · rintro ⟨x,hx,rfl⟩
      rcases C2.1 hx with h|h
      · exact .inr ⟨⟨x,Ek _ h,rfl⟩,fun U=>by
         have B:=G.keys;rw [C0,Dg,Ge]at B;exact B.2.2 _ (Dd h) _ (E3 ..) U⟩
      · rcases DB.1 h with rfl|h
        · exact .inl rfl
        · exact .inr ⟨⟨x,GB _ h,rfl⟩,fun U=>by
           have B:=G.keys;rw [C0,Dg,Ge,HJ]at B;exact B.2.1.1 (U▸Dd h)⟩
  · have U:zb.us=z.us:=by rw [K]
    rw [U,<-Q4 (v:=I0 (Du (I++J) (k:Int)+1*e.sz)) (fun i:Nat=>Value.int .i64 (Du (I++J) (i:Int))) (fun i:Nat=>Value.int .i64 (Du (I++e::J) (i:Int))) X (by
     show Value.int .i64 _=Value.int .i64 _;rw [JD,JD,G9,As hk];congr 1;omega) (fun i _ hi=>by
     show Value.int .i64 _=Value.int .i64 _;rw [JD,JD,G9,An A0];congr 1;omega)]
    exact dn)
variable{MS:List A9}{m:Int}
theorem aI(B:CL z ns L mb es ck lm su)(O:Jo MS z.sh sh)(cO:sh.length=ns)(I:∀x∈sh,0<=x/\x<=1000000)(hk:k<ns)(hm:0<=m/\m<=1000000):BJ prog 133 #[.pointer (some ⟨z.r,0,none⟩),I0 (k:Int),I0 m] [z.S,su,MS] (.bool (decide (shT sh (k:Int) -m<Du L (k:Int)))):=by
 have hu:=B.use (k:Int);obtain ⟨bu,cu,cur,zu,G,rfl,ax,af,g,X⟩:=Og B.used (k:=k) (y0:=I0 (Du L (k:Int))) (by rw [DQ,T0 hk];rfl);rw [B6,Wg]at G;obtain ⟨ps,cs,W,K⟩:=id O;obtain ⟨gs,os,Z,Ts,zs,rfl,U,J⟩:=K _ _ (X9 (k:=k) A0);have bn:=I _ (DO (X9 (sh:=sh) (k:=k) A0))
 refine Se func133 ntmps133 [0,1,2] ?_;intro u R;refine A1<|A5 Y<|Zq<|Aw (n:=18) (0::1::3::7::0::31::63::0::128::384::896::0::3968::8064::0::32640::65535::131071::[]) 0 AF AF V<|A3 0 V (AO Y)<|A3 1 V (Ak Y V)<|A3 2 V (AA (off:=7) HS V rfl W8 Y)<|CV (D':=15) 3 V rfl V (Dy Wo (z.root)) (BD To Y (congrArg some G)) ?_;refine A3 4 rfl (AO Y)<|A3 5 rfl (BU DG AE Y Y (by first|omega|(rw [D4];omega)))<|BE 6 rfl AH Y (hv:=by exact g)<|A3 7 rfl (AO Y)<|A3 8 rfl (Ak Y rfl)<|A3 9 rfl (AA (off:=6) HS rfl rfl W8 Y)<|CV (D':=2047) 10 rfl rfl rfl (Dy Wo (z.root)) (BD To Y (congrArg some W)) ?_;refine A3 11 rfl (AO Y)<|A3 12 rfl (CG DG AE Y Y (by first|omega|(rw [D4];omega)))<|CV (D':=16383) 13 rfl rfl rfl (Dy Wo (U)) (BD AH Y J) ?_;refine A3 14 V (AO Y)<|Dn (D':=65535) 15 (FU Y Y (IntWalk.i64_in _ ?_)) ?_;(focus (omega));refine A3 16 V (Ef Y Y)<|A3 17 V (Aq Y)<|Ag<|Zn [6] ?_;refine Zx<|AJ<|AP V results133 Y (by exact ⟨V,V⟩)
theorem wM(r:Nat):BS prog 135 #[I1 r] [] (fun v H'=>∃b,v= .func (.func 187) #[] #[I1 b]/\H'=[[(b,.cells #[I1 r] 229 (0,0))]]):=by
 refine Se func135 ntmps135 [0] ?_;intro u R;refine A1<|Ze (Bx #[_])<|AG fun b=>A5 Y<|A1<|Zv (Bf (vs:=[]) (us:=[_]) Y Y)<|A5 Y<|AJ<|AP V results135 Y (by exact ⟨_,V,V⟩)
theorem wN(G:CL z ns L mb es ck lm su)(hd:z.bl.Nodup)(hL:L.length<=1000000)(b:Nat):KX prog 187 #[I1 b] [[(b,.cells #[.pointer (some ⟨z.r,0,none⟩)] 229 (0,0))]] (fun s=>∀c∈z.S,c∈s) (fun x:Bh=>#[pV x.b]) L:=by
 intro l J Jx hA hy s U;have bn:=G.nodup hd
 obtain ⟨a0,c0,cO,dn,gy⟩:=jb G.ring (k:=0) (C7 _);obtain rfl:z.r=a0:=by simpa using cO
 refine Se func187 ntmps187 [0,1] ?_;intro u R;refine A1<|Zl isAgg229 Y<|Zp Y V<|Zh 0 eL V rfl dc Y<|Zh 4 HE V rfl H4 Y<|CS (IZ Wo (hA _ s U _ z.root)) (BD SU Y (congrArg some gy)) V rfl<|A5 Y<|AR<|Zb [3,0,1] ?_;refine BF (e0:=[(3,_)]) (fun m e H=>∃(k I:Nat) (s:List A9),m=L.length -k/\((k<=L.length/\(L.map (·.b)++[z.r])[k]?=some I)/\J (L.take k) s)/\e=[(3,pV I)]/\H=[[(b,.cells #[.pointer (some ⟨z.r,0,none⟩)] 229 (0,0))],s]) (by exact ⟨0,c0,s,V,⟨⟨C7 _,dn⟩,U⟩,V,V⟩) Wp ?_;rintro _ _ _ ⟨k,I,s,rfl,⟨⟨hk,g⟩,U⟩,rfl,rfl⟩;unfold pV;have Z:I∈z.bl:=by
  rcases C2.1 (DO g)with h9|h9
  · obtain ⟨y,l5,rfl⟩:=C6.1 h9
    exact E7 _ (Dd (G.sub y l5))
  · rw [C5.1 h9];exact E3 ..
 obtain ⟨cc,Tc,gm,_,_⟩:=z.upd hd Z;have af:=hA _ s U _ gm
 obtain ⟨cr,cu,gq,_,_⟩:=z.upd hd (a:=z.r) (E3 ..);have ax:=hA _ s U _ gq
 refine Zq<|A1<|Zm Y<|Zl isAgg229 Y<|Zp Y rfl<|Zh 0 eL rfl rfl dc Y<|CS (cs:=[(I,.cells cc Tc (0,0)),(z.r,.cells cr cu (0,0))]) (by intro c hc;simp only [DB,Pr,P0]at hc;rcases hc with rfl|rfl<;>simp [af,ax]) (fO underlying155 (rfl:Tryz.prog.info? 157=some Tryz.t157) B0 Y Y) rfl rfl ?_;refine A6<|AQ Y (fun B=>?_) (fun B=>?_);·
  have B:I≠z.r:=HN B;have O:k<L.length:=by
   rcases FA k L.length with h9|h9
   · exact h9
   · obtain rfl:k=L.length:=by omega
     rw [RT B4,B6,T7]at g;injection g with g
     exact absurd g.symm B
  obtain ⟨x,hx⟩:∃x,L[k]?=some x:=⟨_,BT O⟩;have kv:x.b=I:=by
   rw [Wa (by simpa using O),DQ,hx]at g;injection g
  subst kv;have j5:=G.sub x (DO hx)
  obtain ⟨a1,c1,K,ek,ic⟩:=jb G.ring (k:=k+1) (by rw [B6];omega);have d9:a1=x.b:=by
   rw [bj,DQ,hx]at K;injection K with K;exact K.symm
  subst d9;have l8:=hy _ _ _ s (K6 hx) U
  refine AC<|Zx<|Zq<|AR<|A1<|Zm Y<|Zm Y<|Ze (Ff (vs:=[_]) Y Y (l8) Wp) ?_;rintro _ _ ⟨_,⟨s',rfl,l9⟩,rfl⟩;rcases l9 with⟨rfl,W⟩|⟨rfl,hJx⟩
  ·
   refine Zv (Br Y)<|A6<|AQ Y (fun X=>by cases X)<|fun X=>AC<|A8<|Zx<|Zg<|Zm Y<|Zp Y V<|Zh 4 HE V rfl H4 Y<|CS (IZ Wo (hA _ s' W _ (z.node j5))) (BD SU Y (congrArg some ic)) V rfl<|AW Y<|Zn [3,0,1] ?_;refine Aa (e':=[(3,_)]) (by exact ⟨k+1,c1,s',rfl,⟨⟨by omega,ek⟩,by rw [Bl hx];exact W⟩,rfl,rfl⟩)
  refine Zv (Br Y)<|A6<|AQ Y (fun X=>?_) (fun X=>?_);·
   refine AJ<|Ac<|Zt<|Zt<|Ac ?_;refine Cc V results187 (by exact ⟨s',V,.inr ⟨_,hJx⟩⟩)
  cases X
 have B:I=z.r:=Hs.1 (an B);have O:k=L.length:=by
  rcases FA k L.length with h9|h9
  · exfalso
    have j3:I≠z.r:=by
     rw [Wa (by simpa using h9)]at g;rw [HJ]at bn;rintro rfl;exact bn.1 (DO g)
    exact j3 B
  · omega
 rw [O,GC]at U;refine Az<|Zt<|Zt<|AV<|Cc V results187 (by exact ⟨s,V,.inl U⟩)
theorem ku(g:CL z ns L mb es ck lm su)(O:Jo MS z.sh sh)(U:sh.length=ns)(K:∀x∈sh,0<=x/\x<=1000000)(X:k<ns)(Z:0<=m/\m<=1000000)(G I:Nat)(J:shT sh (k:Int) -m<Du L (k:Int)){x:Bh}(W:x∈L):BJ prog 132 #[pV x.b,I1 G] [z.S,su,MS,[(G,.cells #[I0 (k:Int)] 3 (0,0))],[(I,.cells #[.pointer (some ⟨z.r,0,none⟩)] 87 (0,0))]] (.bool (MF sh L (k:Int) m x)):=by
 have B:=g.sub x W;unfold pV;refine Se func132 ntmps132 [0,1] ?_;intro u R;refine A1<|A5 Y<|Zq<|Aw (n:=7) (0::1::3::7::0::31::63::[]) 0 AF AF V<|A3 0 V (AO Y)<|A3 1 V (Ak Y V)<|A3 2 V (AA (off:=1) HE V rfl AE Y)<|CV (D':=15) 3 V rfl V (Dy Wo (z.node B)) (BD AH Y Ax) ?_;refine BE 4 rfl AH Y<|A3 5 rfl (CO Y Y)<|A3 6 rfl (Aq Y)<|Ag<|Zx<|AJ<|AP rfl results132 Y (by exact ⟨by unfold MF;rw [As J],rfl⟩)
theorem kr(g:CL z ns L mb es ck lm su)(Z:Jo MS z.sh sh)(gm:sh.length=ns)(U:∀x∈sh,0<=x/\x<=1000000)(hk:k<ns)(hm:0<=m/\m<=1000000)(bt bp:Nat)(h9:¬shT sh (k:Int) -m<Du L (k:Int)){x:Bh}(hx:x∈L):BJ prog 134 #[pV x.b,I1 bt,I1 bp] [z.S,su,MS,[(bt,.cells #[I0 (k:Int)] 3 (0,0))],[(bp,.cells #[.pointer (some ⟨z.r,0,none⟩)] 87 (0,0))]] (.bool (MF sh L (k:Int) m x)):=by
 have B:=g.sub x hx;have gy:=g.te x hx
 have gq:=g.size hx;obtain ⟨i,hi⟩:∃i:Nat,x.te=(i:Int):=⟨x.te.toNat,by omega⟩;have O:i<ns:=by omega
 have hu:=g.use (i:Int);obtain ⟨bu,cu,cur,zu,J,rfl,dn,d9,I,bn⟩:=Og g.used (k:=i) (y0:=I0 (Du L (i:Int))) (by rw [DQ,T0 O];rfl);rw [B6,Wg]at J;obtain ⟨ps,cs,ax,X⟩:=id Z;obtain ⟨gs,os,cO,Ts,zs,rfl,af,W⟩:=X _ _ (X9 (k:=i) A0);have ek:=U _ (DO (X9 (sh:=sh) (k:=i) A0))
 unfold pV;refine Se func134 ntmps134 [0,1,2] ?_;intro u R;refine A1<|A5 Y<|Zq<|Aw (n:=35) (0::1::3::7::0::31::63::127::255::511::1023::127::2175::6271::14463::32767::65535::127::131199::393343::917631::2097151::127::4194431::12583039::29360255::127::67108991::201326719::469762175::1069547647::2143289471::4294967295::8589934591::17179869183::[]) 0 AF AF V<|A3 0 V (AO Y)<|A3 1 V (Ak Y V)<|A3 2 V (AA (off:=1) HE V rfl AE Y)<|CV (D':=15) 3 V rfl V (Dy Wo (z.node B)) (BD AH Y (by exact congrArg (fun t=>some (Value.int .i64 t)) hi)) ?_;refine BE 4 V AH Y<|A3 5 V (EU Y Y)<|A3 6 V (AO Y)<|DD (t:=11) Y (fun G=>?_) (fun G=>?_);·
  rw [D2 G];refine DP 7 V Wh (BD Lk Y Ax)<|B1 8 V (Ak Y V)<|B1 9 V (AA (off:=7) HS V rfl W8 Y)<|J2 (D':=2047) 10 Y V rfl V (Dy Wo (z.root)) (BD To Y (congrArg some J)) ?_;refine B1 11 V (AO Y)<|B1 12 V (Ak Y V)<|B1 13 V (AA (off:=1) HE V rfl AE Y)<|J2 (D':=32767) 14 Y V rfl V (Dy Wo (z.node B)) (BD AH Y (by exact congrArg (fun t=>some (Value.int .i64 t)) hi)) ?_;refine B1 15 rfl (BU DG AE Y Y (by first|omega|(rw [D4];omega)))<|DP 16 rfl Wh (BD AH Y I)<|B1 17 rfl (AO Y)<|B1 18 rfl (Ak Y rfl)<|B1 19 rfl (AA (off:=2) HE rfl rfl AE Y)<|J2 (D':=2097151) 20 Y rfl rfl rfl (Dy Wo (z.node B)) (BD AH Y Ax) ?_;refine B1 21 V (FU Y Y (IntWalk.i64_in _ A0))<|DP 22 V Wh (BD Lk Y Ax)<|B1 23 V (Ak Y V)<|B1 24 V (AA (off:=6) HS V rfl W8 Y)<|J2 (D':=67108863) 25 Y V rfl V (Dy Wo (z.root)) (BD To Y (congrArg some ax)) ?_;refine B1 26 V (AO Y)<|B1 27 V (Ak Y V)<|B1 28 V (AA (off:=1) HE V rfl AE Y)<|J2 (D':=1073741823) 29 Y V rfl V (Dy Wo (z.node B)) (BD AH Y (by exact congrArg (fun t=>some (Value.int .i64 t)) hi)) ?_;refine B1 30 rfl (CG DG AE Y Y (by first|omega|(rw [D4];omega)))<|J2 (D':=4294967295) 31 Y rfl rfl rfl (Dy Wo (af)) (BD AH Y W) ?_;refine B1 32 V (GV Y Y)<|A3 33 V (AX Y Y)<|A3 34 V (Aq Y)<|Ag<|Zn [4] ?_;refine Zx<|AJ<|AP V results134 Y (by
   refine ⟨?_,V⟩;unfold MF;rw [An h9,hi];have K:(¬(i:Int)=(k:Int))↔¬i=k:=by omega
   simp [G,K])
 rw [Cl G];refine AN 7 V<|AN 8 V<|AN 9 V<|AN 10 V<|AN 11 V<|AN 12 V<|AN 13 V<|AN 14 V<|AN 15 V<|AN 16 V<|AN 17 V<|AN 18 V<|AN 19 V<|AN 20 V<|AN 21 V<|AN 22 V<|AN 23 V<|AN 24 V<|AN 25 V<|AN 26 V<|AN 27 V<|AN 28 V<|AN 29 V<|AN 30 V<|AN 31 V<|AN 32 V<|A3 33 V (AL Y Y)<|A3 34 V (Aq Y)<|Ag<|Zn [4] ?_;refine Zx<|AJ<|AP V results134 Y (by
  refine ⟨?_,V⟩;unfold MF;rw [An h9,hi];have K:(¬(i:Int)=(k:Int))↔¬i=k:=by omega
  simp [G,K])
theorem oK{α:Type}{f:α->Bool}{pre post:List α}{x:α}(h:∀y∈pre,f y=false)(g:f x=true):(pre++x::post).find? f=some x:=by
 rw [List.find?_append,cC.2 (fun y B=>by rw [h y B];decide),List.find?_cons,g];rfl
set_option maxHeartbeats 1000000 in
theorem YE(G:CL z ns L mb es ck lm su)(U:Jo MS z.sh sh)(W:sh.length=ns)(O:∀x∈sh,0<=x/\x<=1000000)(hd:z.bl.Nodup)(hL:L.length<=1000000)(hk:k<ns)(hm:0<=m/\m<=1000000):BJ prog 82 #[.pointer (some ⟨z.r,0,none⟩),I0 (k:Int),I0 m] [z.S,su,MS] (q4 (II sh L (k:Int) m)):=by
 refine DT func82 V ntmps82 V ?_;intro u R;refine Zb [0,1,2] ?_;refine A1<|Ze (Bx #[_])<|AG fun X=>Ze (Bx #[_])<|AG fun J=>Ze (Al eS #[_])<|AG fun br=>A6<|A1<|Zv (Bf (vs:=[]) (us:=[_]) Y Y)<|Ze (Al zeroValue240 #[_])<|AG fun bf=>Xe (Zs sizeOf240 Y Y V)<|A6<|Zb [2,4,3,6,7] ?_;refine Ch (e0:=[(2,_),(4,_)]) (H0:=[[(bf,_)]]) (fun e H=>∃(fi:Nat) (Z:AM),((∀(args:AM) (w:AD),(callFunc fi args).run prog w= .ok (.enter fi args) w)/\∀x∈L,BJ prog fi (([]:List A4)++[pV x.b]++Z.toList).toArray [z.S,su,MS,[(J,.cells #[I0 (k:Int)] 3 (0,0))],[(X,.cells #[.pointer (some ⟨z.r,0,none⟩)] 87 (0,0))]] (.bool (MF sh L (k:Int) m x)))/\e=[]/\H=[[(bf,.cells #[.func (.func fi) #[] Z] 240 (0,0))]]) Wp ?hx_1 ?hy_1
 case hx_1=>
  refine A1<|Zl Lk Y<|Zl AH Y<|Zm Y<|Xr [_,_,_] Y call133 Y V (aI G U W O hk hm)<|Zv (Cz Y)<|A6<|Av Y (fun B=>?_) (fun B=>?_);·
   have B:¬shT sh (k:Int) -m<Du L (k:Int):=by simpa using B
   refine Zg<|Zv (Bf (vs:=[]) (us:=[_,_]) Y Y)<|Xe (Zs sizeOf240 Y Y V)<|Z0<|Zn [3,6,7] ?_;refine BB (e':=[]) (by exact ⟨134,#[I1 J,I1 X],⟨call134,fun x hx=>kr G U W O hk hm J X B hx⟩,V,V⟩)
  have B:shT sh (k:Int) -m<Du L (k:Int):=by simpa using B
  refine AC<|Zn [3,6,7] ?_;refine BB (e':=[]) (by exact ⟨132,#[I1 J],⟨call132,fun x hx=>ku G U W O hk hm J X B hx⟩,V,V⟩)
 rintro _ _ ⟨fi,Z,⟨bn,cu⟩,rfl,rfl⟩;refine Zq<|A1<|Zl Lk Y<|Zp Y V<|Zh 0 HS V rfl sizeOf159 Y<|Zc [_] Y call135 Y V (wM z.r) ?_;rintro _ _ ⟨_,⟨bo,rfl,rfl⟩,rfl⟩;refine A6<|AR<|Zb [6,7,19] ?_;refine PW (Ix:=(fun(_:List Bh) H=>H=[z.S,su,MS,[(J,.cells #[I0 (k:Int)] 3 (0,0))],[(X,.cells #[.pointer (some ⟨z.r,0,none⟩)] 87 (0,0))],[(bf,.cells #[.func (.func fi) #[] Z] 240 (0,0))],[(br,.cells #[q4 (II sh L (k:Int) m)] 155 (0,0))]])) (H0:=_) (R:=_) (I:=(fun(pre:List Bh) H=>(∀y∈pre,MF sh L (k:Int) m y=false)/\H=[z.S,su,MS,[(J,.cells #[I0 (k:Int)] 3 (0,0))],[(X,.cells #[.pointer (some ⟨z.r,0,none⟩)] 87 (0,0))],[(bf,.cells #[.func (.func fi) #[] Z] 240 (0,0))],[(br,.cells #[.pointer none] 155 (0,0))]])) (E:=fun x e Hn=>e=[(8,pV x.b),(20,pV x.b)]/\Hn=[]) rfl Y call187 (wN G hd hL bo) (by rintro pre _ c d ⟨h1,rfl⟩;intro q hq;simp [hq]) Y rfl Wp (⟨fun y hy=>by simp at hy,rfl⟩) ?ha_5 ?hbd_5 ?hk_5 ?hkx_5
 case ha_5=>
  intro _ x _ _;refine Zg<|AW Y<|Ku (e:=[(8,_),(20,_)]) (Hn:=[]) ?_;exact ⟨V,V⟩
 case hbd_5=>
  intro l pre x post u e9 gm H1 R1 r9 af hI ax;obtain ⟨rfl,rfl⟩:=ax;obtain ⟨g,rfl⟩:=hI;have dn:x∈L:=by rw [af];simp
  refine AR<|A1<|Zl isAgg240 Y<|Zm Y<|Xr [_] Y (bn) Y V (cu x dn)<|A6<|AQ Y (fun h1=>?_) (fun h1=>?_);·
   have d9:II sh L (k:Int) m=some x:=by
    have B:=oK (f:=MF sh L (k:Int) m) (post:=post) g h1;rw [<-af]at B;exact B
   refine A1<|Zm Y<|Xe (Zs H4 Y Y V (hc:=by exact V))<|A6<|AJ<|Ac ?_;refine Vp V (by
    show _=_;rw [d9])
  refine AC<|A8<|QI rfl (by exact ⟨fun y hy=>(C2.1 hy).elim (g y) (fun h=>by rw [C5.1 h];simpa using h1),rfl⟩)
 case hk_5=>
  intro D1 H2 K;obtain ⟨g,rfl⟩:=K;have cO:II sh L (k:Int) m=none:=cC.2 fun y hy=>by rw [g y hy];decide
  refine Zn [6] ?_;refine A8<|Zx<|A1<|Xe (Zs H4 Y Y rfl)<|A6<|AJ<|Vq rfl results82 Y Wo Wh (M5 SU (rfl)) (by exact ⟨by rw [cO];rfl,rfl⟩)
 intro D1 ek H2 K;subst K;refine Ac<|Zt<|Vq V results82 Y Wo Wh (M5 SU (V)) (by exact ⟨V,V⟩)
end Go.Proofs.YthhakdmlpngcmaaGreatDoor
