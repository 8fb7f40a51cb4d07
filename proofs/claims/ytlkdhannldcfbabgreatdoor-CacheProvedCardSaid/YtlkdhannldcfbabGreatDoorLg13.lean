/- Apply. -/
import Derived.Test.YtlkdhannldcfbabGreatDoorCa11
set_option linter.unusedVariables false
set_option linter.unusedSimpArgs false
namespace Go.Proofs.YtlkdhannldcfbabGreatDoor
open Go.Proofs.Tryz
open Go Go.RowKit Gw
set_option maxRecDepth 100000
attribute [local irreducible] Gw.At Gw.Nx Gw.Ops
theorem Sw{α:Type}{l:List α}(hn:l.Nodup){i:Nat}{x:α}(h:l[i]?=some x):x∉l.take i:=fun g=>by
 have h2:l=l.take i++x::l.drop (i+1):=by
  obtain ⟨m,B⟩:=C7.1 h;rw [<-B,<-TX m,LO]
 rw [h2,HX]at hn;exact hn.2.2 x g x (Fo ..) V
variable{c:CZ}{p:Int}{qa:BE}{cap:Nat}{cs:List Chg}{ME:List A8}
theorem eO(h:c.ok)(hC:CL ME (.slice qa cs.length cap) cs)(hR:Db p cs)(hp:p=c.pos+1):BS prog 15 #[.pointer (some ⟨c.cp,0,none⟩),.agg #[I4 p,.slice qa cs.length cap]] [[(c.cp,.cells c.BM8 110 (0,0))],c.sW,c.z.S,[(c.mb,.map c.esP c.ckP)],c.su,[(c.ip,.cells #[.map (some c.mq),c.lv] 200 (0,0))],[(c.mq,.map c.esQ c.ckQ)],c.ML,[(c.mi,.map c.esI c.ckI)],[(c.mkb,.map c.esK c.ckK)],c.SI,c.M,c.MR,ME] (fun r H'=>∃(d:CZ) (q2:BE) (cap2:Nat) (zs:List CA) (tv:A2) (s sM:List A8),r= .tuple #[tv,I4 0]/\Hz c d p cs q2 cap2 zs/\d.M=sM++c.M/\Row 9 tv (zs.map Value.string) s/\H'=[[(d.cp,.cells d.BM8 110 (0,0))],d.sW,d.z.S,[(d.mb,.map d.esP d.ckP)],d.su,[(d.ip,.cells #[.map (some d.mq),d.lv] 200 (0,0))],[(d.mq,.map d.esQ d.ckQ)],d.ML,[(d.mi,.map d.esI d.ckI)],[(d.mkb,.map d.esK d.ckK)],d.SI,d.M,d.MR,ME,s]):=by
 have zh:=mL;obtain ⟨p9,y5,e9,zl,zf⟩:=id hC;injection e9 with e91 e92 e93
 subst e91 e93;have zn:=h.pos
 have zm:=hR.pos;have zb:=hR.len
 have zt:=h.wl;have zq:=Eo h.win
 have ic:∀ch∈cs,ch.ok:=fun ch ax=>by
  obtain ⟨i,hi⟩:=HU ax;exact hR.all i ch hi
 have sw:∀x∈c.its.map ItM.iq,BH x.2:=fun y hy=>by
  obtain ⟨x,hx,rfl⟩:=CI.1 hy;exact h.its.q x hx
 have sj:(c.its.map ItM.iq).length<=500:=by rw [Bk];exact h.its.len
 refine DF func15 V ntmps15 V ?_;intro u R;refine Zb [0,1] ?_;refine A3<|Ze (Bx #[_])<|AF fun bc=>Ze (Bx #[I4 p,.slice qa cs.length cap])<|AF fun br=>Za Y<|CT Y<|AQ<|A3<|Zl MD Y ?_;refine Zv (Bb Sx Y Y)<|AH Y<|AY Y (fun gQ=>by cases gQ)<|fun gQ=>Zq<|Ay (n:=14) (0::1::3::7::15::31::15::79::207::463::975::2047::4095::8191::[]) 2 AD AD V<|G3 0 V Wh (A9 (cs:=#[_,_]) HN E0 Y B5 (Az V)) ?_;refine Yw 1 3 V (Zu [_] Y call42 Y V (KT p qa cap cs ME hC)) ?_;rintro _ _ ⟨rfl,rfl⟩;rw [DE hR];refine A1 2 V (Bo Y)<|A1 3 V (AP Y)<|DK (t:=19) Y (fun g1=>?_) (fun g1=>?_);·
  rw [g1];cases g1
 rw [g1];refine B4 4 V (AB (off:=0) GS V rfl A6 Y)<|FF 5 V Wh (BK AE Y B1) ?_;refine FF 6 V Wh (BK MD Y B1) ?_;refine B4 7 V (Ao Y V)<|B4 8 V (AB (off:=0) Gk V rfl A6 Y)<|FF 9 V Wh (BK AE Y B1) ?_
 (refine B4 10 rfl (J6 Y Y (IntWalk.i64_in _ ?_)) ?_;(focus (omega)))
 refine B4 11 V (I8 Y Y)<|A1 12 V (AJ Y Y)<|A1 13 V (BC Y)<|Aq<|Zn [2,3,15] ?_;refine Zx<|Ak Y (fun h3=>by omega)<|fun h3=>AC<|AA<|C6<|Zl MD Y ?_;refine Zh 0 GS V rfl A6 Y<|Zl AE Y ?_;refine Zp Y V<|Zh 0 Gk V rfl A6 Y<|Xe (Zs A6 Y Y V) ?_;refine A4<|Zq<|Ay (n:=12) (0::0::2::6::14::0::32::96::254::511::1023::2047::[]) 2496 AD AD V<|Bm 0 V MD Y ?_;refine Bm 1 V MD Y ?_;refine A1 2 V (Ao Y V)<|A1 3 V (AB (off:=1) Gk V rfl Lz Y)<|Bm 4 V W6 Y ?_;refine G3 5 V Wh (A9 (cs:=#[_,_]) HN E0 Y B5 (Az V)) ?_;refine Zz (l:=[6])<|BW [false,true,true,true] [(4,(_,_)),(1,(_,_)),(0,(_,_))] V rfl (Zw [_] Y call43 Y V (Rc p hC A0)) ?_ Bv Aj;rintro _ _ ⟨_,⟨q2,cap2,s2,rfl,gq,rfl⟩,rfl⟩;refine C3<|Yz 7 96 255 [4,1,0] [true,true,true] [(4,(_,_)),(1,(_,_)),(0,(_,_))] V Y V rfl V rfl (Ah (vs:=[_]) (cs:=[_,_]) G2 E0 N2 Y V rfl V rfl V)<|AF fun gb=>C3<|Yz 8 254 511 [4,1,0] [false,false,true] [(0,(_,_))] V Y V rfl V rfl (BP (by_:=32) (sz:=2) G2 (V:Tryz.prog.info? 55=some Tryz.t55) V rfl V rfl Y (h.win) Y (Cu 2 gb 1 1 55 (0,0) [I4 p,.slice q2 cs.length cap2] V) Wo Wo HO A0 A0) ?_;rintro _ _ ⟨J,Z,rfl⟩;refine ⟨Zk (Ab),?_⟩;obtain ⟨U,K,rfl⟩:=Z.form;refine A1 9 V (Ao Y V)<|A1 10 V (AB (off:=1) Gk V rfl Lz Y)<|Zz (l:=[11])<|BW [false] [] V rfl (Zs Lz Y Y V (hi:=by(simp;done))) ?_ (fun _ _ h=>h.elim) Aj;rintro _ _ ⟨rfl,rfl⟩;refine C3<|Aq<|Zn [2,3] ?_;refine Zx ?_;have X:=BZ Z (n':=(c.win++[(⟨p,q2,cap2,cs⟩:BF)]).length) (xs':=Da (c.win++[(⟨p,q2,cap2,cs⟩:BF)])) (by rw [C0];rfl) (by rw [JD];rfl)
 have B:(c.win++[(⟨p,q2,cap2,cs⟩:BF)]).length=c.win.length+1:=by rw [C0];rfl
 refine Cc (s1:=s2) (s2:=c.M) Wo Wo ?_;refine Zb [2,3] ?_;refine CP (e0:=[]) (H0:=[[(c.cp,.cells #[I4 p,.slice U (c.win.length+1) K,.pointer (some ⟨c.z.r,0,none⟩),.pointer (some ⟨c.ip,0,none⟩),.map (some c.mi),.map (some c.mkb),I4 c.next] 110 (0,0))],J,(s2++c.M)]) (fun e H=>∃(W:List BF) (wq:BE) (wc:Nat) (sW s0:List A8),(KE c.win W ⟨p,q2,cap2,cs⟩/\BU 2 55 (.slice wq W.length wc) W.length (Da W) sW)/\e=[]/\H=[[(c.cp,.cells #[I4 p,.slice wq W.length wc,.pointer (some ⟨c.z.r,0,none⟩),.pointer (some ⟨c.ip,0,none⟩),.map (some c.mi),.map (some c.mkb),I4 c.next] 110 (0,0))],sW,(s0++(s2++c.M))]) Wp ?hx_6 ?hy_6
 case hx_6=>
  refine A3<|Zl MD Y ?_;refine Zp Y V<|Zh 1 Gk V rfl Lz Y<|Zl W6 Y ?_;refine Zv (AR G2 Y)<|Zv (DX (n:=64) Y Y)<|A4<|Ak Y (fun h6=>?_) (fun h6=>?_);·
   have l8:Dx (J++(s2++c.M)) (.slice U (c.win.length+1) K) (c.win++[(⟨p,q2,cap2,cs⟩:BF)]):=by
    rw [B]at X;rw [<-B];refine KU (by rw [B];exact X) A0 fun r hr=>?_;rcases CD.1 hr with hr|hr
    · obtain ⟨i,hi⟩:=HU hr
      exact Ho (h.wp i r hi).2.1 s2
    · rw [CH.1 hr];exact K7 gq c.M
   have l9:Dx (J++(s2++c.M)) (.slice (Ej U 1 K 2) c.win.length (K -1)) ((c.win++[(⟨p,q2,cap2,cs⟩:BF)]).drop 1):=by
    rw [<-B]at l8;have h9:=OJ (a:=1) l8 A0
    rwa [B,S8]at h9
   refine Cc (s1:=J) (s2:=(s2++c.M)) Wo Wo ?_;refine Ay (n:=10) (0::0::2::6::14::30::62::127::255::511::[]) 576 AD AD V<|Bm 0 V MD Y ?_;refine Bm 1 V MD Y ?_;refine A1 2 V (Ao Y V)<|A1 3 V (AB (off:=1) Gk V rfl Lz Y)<|Bm 4 V W6 Y ?_;refine A1 5 rfl (Bz (l:=1) G2 E0 Y Y A0)<|Zz (l:=[6])<|BW [false,false,true] [(0,(_,_))] rfl rfl (Zw [_] Y call44 Y rfl (KI l9 (by rw [Cp];omega))) ?_ Bv Aj;rintro _ _ ⟨_,⟨sR,l5,rfl⟩,rfl⟩;refine ⟨Zk (Ab),?_⟩;obtain ⟨gR,cR,rfl⟩:=l5.form;refine A1 7 V (Ao Y V)<|A1 8 V (AB (off:=1) Gk V rfl Lz Y)<|Zz (l:=[9])<|BW [false] [] V rfl (Zs Lz Y Y V (hi:=by(simp;done))) ?_ (fun _ _ h=>h.elim) Aj;rintro _ _ ⟨rfl,rfl⟩;refine C3<|Aq<|Hh (by exact ⟨(c.win++[(⟨p,q2,cap2,cs⟩:BF)]).drop 1,gR,cR,sR,J,⟨.inr ⟨V,by omega⟩,l5⟩,V,V⟩)
  refine AC<|HB (e:=[]) (h:=by exact ⟨c.win++[(⟨p,q2,cap2,cs⟩:BF)],U,K,J,[],⟨.inl ⟨rfl,by omega⟩,by rw [B]at X⊢;exact X⟩,rfl,by rw [B]⟩)
 rintro _ _ ⟨W,wq,wc,sW,s0,⟨gy,sJ⟩,rfl,rfl⟩;refine A3<|Ze (Al dv #[_])<|AF fun bt=>A4<|A3<|Zv (Be (vs:=[]) (us:=[_,_,_]) Y Y)<|CT Y<|Zq<|Ay (n:=8) (0::1::3::7::0::31::63::0::[]) 32 AD AD V<|Bm 0 V MD Y ?_;refine A1 1 V (Ao Y V)<|A1 2 V (AB (off:=3) Gk V rfl sizeOf105 Y)<|Bm 3 V isAgg105 Y ?_;refine G3 4 V Wh (A9 (cs:=#[_,_]) HN E0 Y B5 (Az V)) ?_;refine A1 7 V (AP Y)<|Zz (l:=[5])<|BW [false,false,false] [] V rfl (Zw [_,_] Y call48 Y V (jE h.its.idx sw sj h.its.ist p (MC:=ME) hC A0 ic)) ?_ Bv Aj;rintro _ _ ⟨_,⟨zi,sz,lv2,ML2,o9,wo,zu,ek,o8,rfl⟩,rfl⟩;refine ⟨Ab,?_⟩;obtain ⟨pk,ck,rfl⟩:=ek.form;simp only [Bk];rw [Bk]at ek;refine A1 6 V (AR DP Y)<|Aq<|Zx<|AQ<|Bc<|Zb [68,2,3,6,7,66,67] ?_;refine Aw (e0:=[(68,_)]) (fun m e H=>∃(k:Nat) (d:CZ) (tl:List CA) (tv:A2) (st:List A8),m=zi.length -k/\(k<=zi.length/\I1 c d cs p W (s0++(s2++c.M)) (zi.take k) tl/\Row 9 tv (tl.map Value.string) st)/\e=[(68,I4 (k:Int))]/\H=[[(c.cp,.cells d.BM8 110 (0,0))],d.sW,d.z.S,[(d.mb,.map d.esP d.ckP)],d.su,[(d.ip,.cells #[.map (some d.mq),d.lv] 200 (0,0))],[(d.mq,.map d.esQ d.ckQ)],d.ML,[(d.mi,.map d.esI d.ckI)],[(d.mkb,.map d.esK d.ckK)],d.SI,d.M,d.MR,[(bt,.cells #[tv] 50 (0,0))],st]) (by exact ⟨0,({c with pos:=p,wq:=wq,wc:=wc,win:=W,sW:=sW,lv:=lv2,ML:=ML2,M:=s0++(s2++c.M)}:CZ),[],.slice none 0 0,[],rfl,⟨CM _,by rw [JT];exact AD2 h.tookb gy sJ hp hR (fun q hq=>HK _ (HK _ hq)) (Ho (K7 gq c.M) s0) o8,Gg _⟩,rfl,rfl⟩) Wp ?_;rintro _ _ _ ⟨k,d,tl,tv,st,rfl,⟨hk,g,hT⟩,rfl,rfl⟩;refine A3<|Zv (Ap Y Y)<|A4<|Zq<|Ak Y (fun bn=>?_) (fun bn=>?_);·
  obtain ⟨i9,O⟩:∃i,zi[k]?=some i:=⟨_,BT A0⟩;obtain ⟨y9,vz,cO,yt⟩:=(o9 i9).1 (Ek O);obtain ⟨x,hx,rfl⟩:=CI.1 vz;replace cO:x.id=i9:=cO;subst cO;have kv:x.id∉zi.take k:=Sw wo O
  have cu:=g.next_it h.tookb hx kv;have j5:=g.okb.its.get cu
  have qx:EM x.id d.lmK=some (.string x.key):=D8 g.okb.its.km.keys ((g.okb.its.kmem _).2 ⟨x,cu,rfl⟩);have ax:(x.b,Obj.cells x.BM7 116 (0,0))∈d.SI:=g.okb.its.sub x cu
  have ve:tl.length<=500:=SZ (Pp g.t2 fun a ha=>by
   obtain ⟨w,hw,rfl,_⟩:=(g.t1 a).1 ha;exact Fk hw) (by rw [Bk];exact h.its.len)
  rcases ek with⟨_,h0,_⟩|⟨gk,capk,curk,zk,hvk,rfl,hlek,hcmk,hcsk,htkk,hfrk⟩
  · simp at h0;subst h0;simp at bn
  injection hvk with hv1 hv2 hv3
  subst hv1 hv3;have pz:curk[k]?=some (I4 x.id):=by
   have h:=congrArg (fun l=>l[k]?) htkk;simp only [HR,Bk,Ax bn,E6,O]at h;simpa using h
  refine B3<|Zq<|AQ<|A3<|BX (Bd DP A6 Y Y (by first|omega|decide|(simp;done)|(simp;omega)))<|Zl AE Y (hv:=by exact pz) ?_;refine AH Y<|A3<|Zl MD Y ?_;refine Zp Y V<|Zh 5 Gk V rfl sizeOf108 Y<|Zl isAgg108 Y ?_;refine Zm Y<|Zo Wh (Du (Cf D3 (D:=fun _=>True)) eo I2 g.okb.its.km (fun _ _=>trivial) (trivial) (by rw [qx];first|done|rfl) Y Y) ?_;refine CT Y<|Ay (n:=13) (0::1::3::7::0::31::63::127::255::511::0::1024::4095::[]) 0 AD AD V<|Bm 0 V MD Y ?_;refine A1 1 V (Ao Y V)<|A1 2 V (AB (off:=4) Gk V rfl T5 Y)<|Bm 3 V Sh Y ?_;refine A1 4 rfl (AP Y)<|G3 5 rfl Wh (Du (EI GW (D:=fun _=>True)) Ss cA g.okb.its.im (fun _ _=>trivial) (trivial) (by rw [j5];first|done|rfl) Y Y) ?_;refine A1 6 V (Ao Y V)<|A1 7 V (AB (off:=0) LS V rfl I3 Y)<|A1 8 V (Ar (off:=8) HF V rfl A6 Y)<|Cn (D':=1023) 9 V rfl V (FN Wo (ax)) (BK AE Y B1) ?_;refine A1 10 V (AB (off:=0) GS V rfl A6 Y)<|Bm 11 V AE Y ?_;refine A1 12 V (Dy Y Y)<|Aq<|Zn [2,3,6,7,10,66,67,68,90] ?_;refine Zx<|Ak Y (fun af=>?_) (fun af=>?_);·
   refine Zg<|Zm Y<|Zm Y<|Zl MD Y ?_;refine Zp Y V<|Zh 4 Gk V rfl T5 Y<|Zl Sh Y ?_;refine Zm Y<|Zo Wh (Du (EI GW (D:=fun _=>True)) Ss cA g.okb.its.im (fun _ _=>trivial) (trivial) (by rw [j5];first|done|rfl) Y Y) ?_;refine Zc [_,_] Y call45 Y V (kR g h hC A0 hx af kv hT A0 bt br bc) ?_;rintro _ _ ⟨_,⟨rfl,d2,x9,wz,gm,pq,rfl⟩,rfl⟩;refine Z0<|AA<|Zx<|Dg Y Y Y<|DG (e:=[(68,_)]) (h:=by exact ⟨k+1,d2,tl++[x.key],x9,wz,rfl,⟨by omega,by rw [Bl O];exact gm,pq⟩,rfl,rfl⟩)
  refine AC<|AA<|Zx<|Dg Y Y Y<|DG (e:=[(68,_)]) (h:=by exact ⟨k+1,d,tl,tv,st,rfl,⟨by omega,by rw [Bl O];exact AD0 g h.tookb hx af,hT⟩,rfl,rfl⟩)
 obtain rfl:k=zi.length:=by omega
 rw [HE]at g;have ve:tl.length<=500:=SZ (Pp g.t2 fun a ha=>by
  obtain ⟨w,hw,rfl,_⟩:=(g.t1 a).1 ha;exact Fk hw) (by rw [Bk];exact h.its.len)
 refine BA<|Zt<|Zt<|AX<|Zx<|Zq<|Zq ?_;rw [<-g.cp];refine Zg<|Zl MD Y ?_;refine Zc [_] Y call49 Y V (fu d) ?_;rintro _ _ ⟨_,⟨bs,rfl,rfl⟩,rfl⟩;refine A4<|AQ<|Zb [2,6,102] ?_;refine JI (H0:=_) (R:=_) (I:=(fun(pre:List CA) H=>∃d2:CZ,Jf d d2 pre/\H=[[(d.cp,.cells d2.BM8 110 (0,0))],d2.sW,d2.z.S,[(d2.mb,.map d2.esP d2.ckP)],d2.su,[(d2.ip,.cells #[.map (some d2.mq),d2.lv] 200 (0,0))],[(d2.mq,.map d2.esQ d2.ckQ)],d2.ML,[(d2.mi,.map d2.esI d2.ckI)],[(d2.mkb,.map d2.esK d2.ckK)],d2.SI,d2.M,d2.MR,[(bc,.cells #[.pointer (some ⟨d.cp,0,none⟩)] 35 (0,0))]])) (E:=fun x e Hn=>e=[(11,.string x),(103,.string x)]/\Hn=[]) rfl Y call115 (gB g.okb bs) (fun pre H1 c9 d9 h9=>by obtain ⟨d2,G,rfl⟩:=h9;exact ⟨d2,G.okb,G.like.cp,G.mi,G.like.pos,G.its,by rw [G.like.cp];simp,by simp,fun q hq=>by simp [hq]⟩) Y rfl Wp (⟨d,TC g.okb,rfl⟩) ?ha_16 ?hbd_16 ?hk_16
 case ha_16=>
  intro _ x _ _;refine Zg<|B2 Y<|LP (e:=[(11,_),(103,_)]) (Hn:=[]) ?_;exact ⟨V,V⟩
 case hbd_16=>
  intro l pre x u e9 za H1 R1 r9 vw hI p8;obtain ⟨rfl,rfl⟩:=p8;obtain ⟨d2,G,rfl⟩:=hI;obtain ⟨x2,vo,rfl⟩:=fw G g.okb vw;rw [<-G.like.cp];refine AQ<|Zg<|Zl MD Y ?_;refine Zm Y<|Zc [_,_] Y call47 Y V (jq G.okb vo) ?_;rintro _ _ ⟨_,⟨rfl,d3,q9,j3,qb,qh,_,qj,ql,qo,rfl⟩,rfl⟩;rw [j3.cp];refine Z0<|AA<|FZ V (by exact ⟨d3,TB G q9 j3 qb qh qj ql qo,V⟩)
 intro D1 ys H2 qw pg;obtain ⟨d2,G,rfl⟩:=pg;rw [<-G.like.cp];refine Zn [6] ?_;refine AA<|C6<|Zl ID Y ?_;refine Zc [_] Y call50 Y V (TF hT A0) ?_;rintro _ _ ⟨_,⟨zs,s3,rfl,qz,sQ,sO,rfl⟩,rfl⟩;refine A4<|A3<|Zl ID Y ?_;refine Za Y<|An Y<|G7 V (ul results15 Y Y) Wo (by exact ⟨d2,q2,cap2,zs,tv,s3,s0++s2,V,AD1 h hR hp gy g (fun q hq=>HK _ (HK _ hq)) o9 G qw qz sQ,G.M.1.trans (g.M.trans (DH _ _ _).symm),sO,V⟩)
theorem A77:GV [] 0 #[] 0 [] (.pointer none) [] #[] 0 [] #[] 0 [] []:=⟨qK,.inl ⟨rfl,rfl⟩,EU _,fun p=>by simp,EU _,fun p=>by simp,oE,fun x hx=>by simp at hx,by decide,by decide,fun x hx=>by simp at hx,fun x hx=>by simp at hx⟩
theorem AB3{d:CZ}(h:d.okb)(hi:d.its=[])(pos:Int)(m:0<=pos/\pos<=10000):({d with pos:=pos,wq:=none,wc:=0,win:=[],sW:=[]}:CZ).ok:=
 ⟨⟨m,Bh 2 _,CM _,fun i r B=>by simp at B,h.pool,h.pk,h.its,h.tns⟩,fun x hx=>by have g:x∈d.its:=hx;rw [hi]at g;simp at g⟩
theorem CZ.okb.noPL(h:c.okb)(hi:c.its=[]):c.PL=[]:=by
 cases hP:c.PL with
 |nil=>rfl
 |cons e l=>
  have g:=(h.pk e.key).1 (by rw [hP];simp);rw [hi]at g;simp at g
variable{v:A2}{sh:List Int}{ss:List A8}
theorem rZ(O:Row 3 v (sh.map (Value.int .i64)) ss)(pos cap:Int)(K:0<=pos/\pos<=10000)(hc:1<=cap/\cap<=1000000)(U:1<=sh.length/\sh.length<=8)(h0:∀x∈sh,0<=x)(J:sh.sum<=cap):BS prog 9 #[I4 pos,I4 cap,v] [ss] (fun r H'=>∃c:CZ,r= .tuple #[.pointer (some ⟨c.cp,0,none⟩),I4 0]/\c.ok/\(c.its=[]/\c.PL=[]/\c.win=[])/\c.pos=pos/\c.next=0/\c.ns=sh.length/\c.z.cap=cap/\VB c.M c.z.sh sh/\H'=[[(c.cp,.cells c.BM8 110 (0,0))],c.sW,c.z.S,[(c.mb,.map c.esP c.ckP)],c.su,[(c.ip,.cells #[.map (some c.mq),c.lv] 200 (0,0))],[(c.mq,.map c.esQ c.ckQ)],c.ML,[(c.mi,.map c.esI c.ckI)],[(c.mkb,.map c.esK c.ckK)],c.SI,c.M,c.MR,ss]):=by
 refine Se func9 ntmps9 [0,1,2] ?_;intro u R;refine A3<|Za Y<|AH Y<|B8 Y<|Xr [_] Y call32 Y V (JZ pos) ?_;rw [DE K];refine Zv (Bo Y)<|A4<|AY Y (fun m=>by cases m)<|fun m=>B3<|AK Y<|Zm Y<|Zc [_,_] Y call33 Y V (pF O cap hc U h0 J) ?_;rintro _ _ ⟨_,⟨z,mb,su,sc,rfl,⟨G,I⟩,g,rfl⟩,rfl⟩;refine Zm Y<|Zd Y V<|Zd Y V<|Za Y<|B2 Y<|Zn [0,8,9] ?_;refine Zx<|B8 Y<|Zv (Cm (n:=0) Y Y)<|A4<|Ak Y (fun B=>?_) (fun B=>?_);·
  exfalso;exact B rfl
 refine B3<|Zq<|Bc<|Bc<|Bc<|Bc<|Zg<|Zm Y<|Zm Y<|Zc [] Y call34 Y V (nC) ?_;rintro _ _ ⟨_,⟨ip,mq,rfl,rfl⟩,rfl⟩;refine Ze (DV)<|AF fun mi=>Ze (DV)<|AF fun mkb=>Zv (BN (vs:=[(0,_),(2,_),(3,_),(4,_),(5,_)]) (cs:=#[_,_,_,_,_,_,_]) Y (Aa (pl:=#[(0,1),(1,1),(2,1),(3,1),(4,1),(5,1),(6,1)]) zeroValue110 Gk (fun _=>by kernel_rfl) V))<|Ze (Bx #[_,_,_,_,_,_,_])<|AF fun cp=>Za Y<|An Y<|DR V results9 Y Y (by refine ⟨({cp:=cp,pos:=pos,wq:=none,wc:=0,win:=[],sW:=[],z:=z,ns:=sh.length,PL:=[],mb:=mb,esP:=#[],ckP:=0,lmP:=[],su:=su,ip:=ip,mq:=mq,mi:=mi,mkb:=mkb,next:=0,its:=[],esQ:=#[],ckQ:=0,lmQ:=[],lv:= .pointer none,ML:=[],esI:=#[],ckI:=0,lmI:=[],esK:=#[],ckK:=0,lmK:=[],SI:=[],M:=sc,MR:=[]}:CZ),V,⟨⟨K,Bh 2 _,by simp,fun i r W=>by simp at W,g,fun k=>by simp,A77,fun x hx=>by simp at hx⟩,fun x hx=>by simp at hx⟩,⟨V,V,V⟩,V,V,V,G,I,V⟩)
theorem AB6(pos:Int)(cap:Int)(v:A2)(m:¬(0<=pos/\pos<=10000)):Au prog 9 #[I4 pos,I4 cap,v] [] (.tuple #[.pointer none,I4 180]):=by
 refine Se func9 ntmps9 [0,1,2] ?_;intro u R;refine A3<|Za Y<|AH Y<|B8 Y<|Xr [_] Y call32 Y V (JZ pos) ?_;rw [DQ m];refine Zv (Bo Y)<|A4<|AY Y (fun g=>?_) (fun g=>?_);·
  refine A3<|Za Y<|An Y<|Zt<|DR V results9 Y Y (by exact ⟨V,V⟩)
 cases g
theorem gX(h:c.ok)(pos:Int)(hp:0<=pos/\pos<=10000):BS prog 22 #[.pointer (some ⟨c.cp,0,none⟩),I4 pos] [[(c.cp,.cells c.BM8 110 (0,0))],c.sW,c.z.S,[(c.mb,.map c.esP c.ckP)],c.su,[(c.ip,.cells #[.map (some c.mq),c.lv] 200 (0,0))],[(c.mq,.map c.esQ c.ckQ)],c.ML,[(c.mi,.map c.esI c.ckI)],[(c.mkb,.map c.esK c.ckK)],c.SI,c.M,c.MR] (fun v H'=>v=undef/\∃d:CZ,d.ok/\d.cp=c.cp/\(d.its=[]/\d.PL=[]/\d.win=[])/\d.pos=pos/\d.next=c.next/\d.ns=c.ns/\d.z.cap=c.z.cap/\(d.z.cs=c.z.cs/\∀q∈c.M,q∈d.M)/\H'=[[(d.cp,.cells d.BM8 110 (0,0))],d.sW,d.z.S,[(d.mb,.map d.esP d.ckP)],d.su,[(d.ip,.cells #[.map (some d.mq),d.lv] 200 (0,0))],[(d.mq,.map d.esQ d.ckQ)],d.ML,[(d.mi,.map d.esI d.ckI)],[(d.mkb,.map d.esK d.ckK)],d.SI,d.M,d.MR]):=by
 refine Se func22 ntmps22 [0,1] ?_;intro u R;refine B8 Y<|Zv (Bb Sx Y Y)<|Zm Y<|Ad (t:=8) Y V (fun g1=>by cases g1)<|fun g1=>Zf Y Y<|Xr [_] Y call32 Y V (JZ pos) ?_;rw [DE hp];refine Yg (Bo Y)<|B9 Y Y<|A4<|AY Y (fun K=>by cases K)<|fun K=>B3<|B8 Y<|Zc [_] Y call17 Y V (Om h.tookb) ?_;rintro _ _ ⟨_,⟨zs,sk,B,gq,J,rfl⟩,rfl⟩;have ek:zs.Nodup:=B.nodup_iff.2 h.its.keys
 have d9:=B.length_eq;rw [Bk]at d9;have gm:=h.its.len
 obtain ⟨pk,ck,rfl⟩:=J.form;simp only [Bk];rw [Bk]at J;refine Zv (AR DO Y)<|Zm Y<|A4<|AQ<|Zb [16,0,1,14,15] ?_;refine Aw (e0:=[(16,_)]) (fun m e H=>∃(i:Nat) (d:CZ),m=zs.length -i/\(i<=zs.length/\Jf c d (zs.take i))/\e=[(16,I4 (i:Int))]/\H=[[(c.cp,.cells d.BM8 110 (0,0))],d.sW,d.z.S,[(d.mb,.map d.esP d.ckP)],d.su,[(d.ip,.cells #[.map (some d.mq),d.lv] 200 (0,0))],[(d.mq,.map d.esQ d.ckQ)],d.ML,[(d.mi,.map d.esI d.ckI)],[(d.mkb,.map d.esK d.ckK)],d.SI,d.M,d.MR]) (by exact ⟨0,c,rfl,⟨CM _,by rw [JT];exact TC h.tookb⟩,rfl,rfl⟩) Wp ?_;rintro _ _ _ ⟨i,d,rfl,⟨hi,g⟩,rfl,rfl⟩;refine A3<|Zv (Ap Y Y)<|A4<|Zq<|Ak Y (fun I=>?_) (fun I=>?_);·
  obtain ⟨k,U⟩:∃k,zs[i]?=some k:=⟨_,BT A0⟩;obtain ⟨x,hx,rfl⟩:=CI.1 (B.mem_iff.1 (Ek U));have cO:x∈d.its:=(g.its x).2 ⟨hx,Sw ek U⟩
  rcases J with⟨_,h0,_⟩|⟨gk,capk,curk,zk,hvk,rfl,hlek,hcmk,hcsk,htkk,hfrk⟩
  · simp at h0;subst h0;simp at I
  injection hvk with hv1 hv2 hv3
  subst hv1 hv3;have W:curk[i]?=some (.string x.key):=by
   have h:=congrArg (fun l=>l[i]?) htkk;simp only [HR,Bk,Ax I,E6,U]at h;simpa using h
  refine B3<|Zq<|AQ<|A3<|BX (Bd DO FG Y Y Q2)<|Zl H3 Y (hv:=by exact W)<|B2 Y<|Zx ?_;rw [<-g.like.cp];refine Zg<|Zm Y<|Zm Y<|Zc [_,_] Y call47 Y V (jq g.okb cO) ?_;rintro _ _ ⟨_,⟨rfl,d3,X,O,Z,af,_,ax,bn,cu,rfl⟩,rfl⟩;rw [O.cp,g.like.cp];refine Z0<|AA<|Zx<|Dg Y Y Y<|DG (e:=[(16,_)]) (h:=by exact ⟨i+1,d3,rfl,⟨by omega,by rw [Bl U];exact TB g X O Z af ax bn cu⟩,rfl,rfl⟩)
 obtain rfl:i=zs.length:=by omega
 rw [HE]at g;have G:d.its=[]:=ui.2 fun y hy=>by
  obtain ⟨h1,h2⟩:=(g.its y).1 hy;exact h2 (B.mem_iff.2 (Fk h1))
 refine BA<|Zt<|Zt<|AX<|Zx ?_;rw [<-g.like.cp];refine Bc<|Zg<|Zm Y<|Zm Y<|Zm Y<|Zp Y rfl<|Zh 0 Gk rfl rfl A6 Y<|Xe (Zs A6 Y Y rfl (hi:=by(simp;done)))<|Zp Y rfl<|Zh 1 Gk rfl rfl Lz Y<|Xe (Zs Lz Y Y rfl (hi:=by(simp;done)))<|Z0<|DC rfl results22 (by exact ⟨rfl,({d with pos:=pos,wq:=none,wc:=0,win:=[],sW:=[]}:CZ),AB3 g.okb G pos hp,rfl,⟨G,g.okb.noPL G,rfl⟩,rfl,g.next,g.like.ns,g.like.cap,⟨g.like.sc,fun q hq=>by show q∈d.M;rw [g.M.1];exact hq⟩,rfl⟩)
theorem eP(h:c.okb)(G:CL ME (.slice qa cs.length cap) cs)(K:Db p cs)(hp:p≠c.pos+1):Au prog 15 #[.pointer (some ⟨c.cp,0,none⟩),.agg #[I4 p,.slice qa cs.length cap]] [[(c.cp,.cells c.BM8 110 (0,0))],ME] (.tuple #[.slice none 0 0,I4 180]):=by
 have U:=mL;obtain ⟨p9,B,I,W,O⟩:=id G;injection I with e91 e92 e93
 subst e91 e93;refine DF func15 V ntmps15 V ?_;intro u R;refine Zb [0,1] ?_;refine A3<|Ze (Bx #[_])<|AF fun X=>Ze (Bx #[I4 p,.slice qa cs.length cap])<|AF fun Z=>Za Y<|CT Y<|AQ<|A3<|Zl MD Y<|Zv (Bb Sx Y Y)<|AH Y<|AY Y (fun g=>by cases g)<|fun g=>Zq<|Ay (n:=14) (0::1::3::7::15::31::15::79::207::463::975::2047::4095::8191::[]) 2 AD AD V<|G3 0 V Wh (A9 (cs:=#[_,_]) HN E0 Y B5 (Az V))<|Yw 1 3 V (Zu [_] Y call42 Y V (KT p qa cap cs ME G)) ?_;rintro _ _ ⟨rfl,rfl⟩;rw [DE K];refine A1 2 V (Bo Y)<|A1 3 V (AP Y)<|DK (t:=19) Y (fun m=>?_) (fun m=>?_);·
  rw [m];cases m
 rw [m];refine B4 4 V (AB (off:=0) GS V rfl A6 Y)<|FF 5 V Wh (BK AE Y B1)<|FF 6 V Wh (BK MD Y B1)<|B4 7 V (Ao Y V)<|B4 8 V (AB (off:=0) Gk V rfl A6 Y)<|FF 9 V Wh (BK AE Y B1)<|B4 10 V (J6 Y Y (IntWalk.i64_in _ (by have:=h.pos;omega)))<|B4 11 V (I8 Y Y)<|A1 12 V (AJ Y Y)<|A1 13 V (BC Y)<|Aq<|Zn [2,3,15] ?_;refine Zx<|Ak Y (fun J=>?_) (fun J=>?_);·
  refine A3<|Za Y<|An Y<|Ag<|Zt<|Ke V (ul results15 Y Y) (by exact ⟨V,V⟩)
 exfalso;omega
theorem Jc{P:Program}{f:FuncId}{args:AN}{H H1:Hp}{r:A2}(h:Au P f args H r)(R:List A8)(g:H1.flatten.Perm (H.flatten++R)):Au P f args H1 r:=FJ h R g (by
 rintro v H' ⟨rfl,rfl⟩;exact ⟨_,⟨V,V⟩,g⟩)
def CZ.mem(c:CZ):List A8:=([(c.cp,.cells c.BM8 110 (0,0))]:List A8)++((c.sW:List A8)++((c.z.S:List A8)++(([(c.mb,.map c.esP c.ckP)]:List A8)++((c.su:List A8)++(([(c.ip,.cells #[.map (some c.mq),c.lv] 200 (0,0))]:List A8)++(([(c.mq,.map c.esQ c.ckQ)]:List A8)++((c.ML:List A8)++(([(c.mi,.map c.esI c.ckI)]:List A8)++(([(c.mkb,.map c.esK c.ckK)]:List A8)++((c.SI:List A8)++((c.M:List A8)++((c.MR:List A8)))))))))))))
theorem Y5(h:c.okb){B:Int}(J:∀e∈c.PL,e.sz<=B):c.z.cap -(c.its.length:Int)*B<=c.z.fr:=by
 have I:∀L:List Br,(∀e∈L,e.sz<=B)->Lu L<=(L.length:Int)*B:=fun L=>by
  induction L with
  |nil=>intro _;simp [Lu]
  |cons e l ih=>
   intro G;have h2:=ih fun x hx=>G x (GB _ hx)
   have g:=G e (Fo ..);have m:Lu (e::l)=e.sz+Lu l:=by unfold Lu;rw [Fc,ln]
   rw [m,F2];push_cast;rw [Int.add_mul];omega
 have h2:(c.PL.map (·.key)).Perm (c.its.map ItM.key):=(T7 h.pool.keys h.its.keys).2 h.pk;have g:=h2.length_eq
 rw [Bk,Bk]at g;have m:=I c.PL J
 rw [g]at m;have K:=h.pool.free
 omega
def uc(c d:CZ)(q:QM)(tn base:Int)(L:List RP)(R:C8×Int×Bool)(b:Bool):Prop:=
 (b=false/\d=c/\¬((c.pos -base).toNat<=c.win.length/\R.2.2=true))\/
 (b=true/\((c.pos -base).toNat<=c.win.length/\R.2.2=true)/\(∀e∈d.PL,e∈c.PL\/e.sz=1+(R.1.rows.length:Int))/\
   ((d=c/\∃x∈c.its,x.key=str (DI q)/\base<=x.base)\/
    ((∀x∈c.its,x.key=str (DI q)->x.base<base)/\∃y:ItM,d.its=(c.its.filter fun x=>x.key≠str (DI q))++[y]/\y.q=q/\y.base=base/\y.L=L/\y.res=R.1/\y.since=R.2.1/\((y.tn=tn/\∀x∈c.its,x.key≠str (DI q))\/∃x∈c.its,x.key=str (DI q)/\y.tn=x.tn))))
theorem zU(c:CZ):Au prog 23 #[.pointer (some ⟨c.cp,0,none⟩)] [c.mem] (I4 c.pos):=Jc (rW c) ((c.sW:List A8)++(c.z.S:List A8)++([(c.mb,.map c.esP c.ckP)]:List A8)++(c.su:List A8)++([(c.ip,.cells #[.map (some c.mq),c.lv] 200 (0,0))]:List A8)++([(c.mq,.map c.esQ c.ckQ)]:List A8)++(c.ML:List A8)++([(c.mi,.map c.esI c.ckI)]:List A8)++([(c.mkb,.map c.esK c.ckK)]:List A8)++(c.SI:List A8)++(c.M:List A8)++(c.MR:List A8)++[]) (CR fun f g=>by simp only [D2,H4,E7,CZ.mem,CZ.BM8,g]<;>omega)
theorem yd(h:c.okb){k:Nat}(m:k<c.ns):Au prog 24 #[.pointer (some ⟨c.cp,0,none⟩),I4 (k:Int)] [c.mem] (I4 (Fg c.PL (k:Int))):=Jc (jy h m) ((c.sW:List A8)++([(c.ip,.cells #[.map (some c.mq),c.lv] 200 (0,0))]:List A8)++([(c.mq,.map c.esQ c.ckQ)]:List A8)++(c.ML:List A8)++([(c.mi,.map c.esI c.ckI)]:List A8)++([(c.mkb,.map c.esK c.ckK)]:List A8)++(c.SI:List A8)++(c.M:List A8)++(c.MR:List A8)++[]) (CR fun f g=>by simp only [D2,H4,E7,CZ.mem,CZ.BM8,g]<;>omega)
theorem qA(h:c.ok){x:ItM}(hx:x∈c.its)(g:c.pos<x.base):Au prog 18 #[.pointer (some ⟨c.cp,0,none⟩),.string x.key] [c.mem] (.tuple #[.agg #[I4 0,I4 0,I4 0,I4 0,I4 0,I4 0,I4 0,.slice none 0 0,I4 0,.bool false,I4 0,I4 0,I4 0,.slice none 0 0,.slice none 0 0],.bool false]):=Jc (A88 h hx g) ((c.sW:List A8)++(c.z.S:List A8)++([(c.mb,.map c.esP c.ckP)]:List A8)++(c.su:List A8)++([(c.ip,.cells #[.map (some c.mq),c.lv] 200 (0,0))]:List A8)++([(c.mq,.map c.esQ c.ckQ)]:List A8)++(c.ML:List A8)++([(c.mkb,.map c.esK c.ckK)]:List A8)++(c.MR:List A8)++[]) (CR fun f m=>by simp only [D2,H4,E7,CZ.mem,CZ.BM8,m]<;>omega)
theorem SS(h:c.ok){x:ItM}(hx:x∈c.its)(I:x.base<=c.pos):BS prog 18 #[.pointer (some ⟨c.cp,0,none⟩),.string x.key] [c.mem] (fun r H'=>∃(z:Ox) (l:List BF) (s:List A8),z.a=⟨x.q,x.res,x.since,c.pos,x.base,x.L,l⟩/\l.map BF.pc=(Dj c.pos x.base c.win).map BF.pc/\z.ok s/\r= .tuple #[.agg z.BM6,.bool true]/\H'=[c.mem,s]):=FJ (xv h hx I) ((c.z.S:List A8)++([(c.mb,.map c.esP c.ckP)]:List A8)++(c.su:List A8)++([(c.ip,.cells #[.map (some c.mq),c.lv] 200 (0,0))]:List A8)++([(c.mq,.map c.esQ c.ckQ)]:List A8)++(c.ML:List A8)++([(c.mkb,.map c.esK c.ckK)]:List A8)++(c.MR:List A8)++[]) (CR fun f g=>by simp only [D2,H4,E7,CZ.mem,CZ.BM8,g]<;>omega) (by
 rintro r H' ⟨z,l,s,m,h2,B,G,rfl⟩;exact ⟨_,⟨z,l,s,m,h2,B,G,V⟩,CR fun f g=>by simp only [D2,H4,E7,CZ.mem,CZ.BM8,g]<;>omega⟩)
theorem u7(h:c.okb):BS prog 17 #[.pointer (some ⟨c.cp,0,none⟩)] [c.mem] (fun r H'=>∃(zs:List CA) (s:List A8),zs.Perm (c.its.map ItM.key)/\(zs.Pairwise fun x y=>x.data.toList<=y.data.toList)/\Row 9 r (zs.map Value.string) s/\H'=[c.mem,s]):=FJ (Om h) ((c.sW:List A8)++(c.z.S:List A8)++([(c.mb,.map c.esP c.ckP)]:List A8)++(c.su:List A8)++([(c.ip,.cells #[.map (some c.mq),c.lv] 200 (0,0))]:List A8)++([(c.mq,.map c.esQ c.ckQ)]:List A8)++(c.ML:List A8)++([(c.mkb,.map c.esK c.ckK)]:List A8)++(c.SI:List A8)++(c.M:List A8)++(c.MR:List A8)++[]) (CR fun f g=>by simp only [D2,H4,E7,CZ.mem,CZ.BM8,g]<;>omega) (by
 rintro r H' ⟨zs,s,m,h2,B,rfl⟩;exact ⟨_,⟨zs,s,m,h2,B,V⟩,CR fun f g=>by simp only [D2,H4,E7,CZ.mem,CZ.BM8,g]<;>omega⟩)
theorem xi(h:c.ok)(pos:Int)(W:0<=pos/\pos<=10000):BS prog 22 #[.pointer (some ⟨c.cp,0,none⟩),I4 pos] [c.mem] (fun r H'=>r=undef/\∃d:CZ,d.ok/\d.cp=c.cp/\(d.its=[]/\d.PL=[]/\d.win=[])/\d.pos=pos/\d.next=c.next/\d.ns=c.ns/\d.z.cap=c.z.cap/\(d.z.cs=c.z.cs/\∀q∈c.M,q∈d.M)/\H'=[d.mem]):=FJ (gX h pos W) [] (CR fun f g=>by simp only [D2,H4,E7,CZ.mem,CZ.BM8,g]<;>omega) (by
 rintro r H' ⟨m,d,h2,B,G,I,J,K,O,U,rfl⟩;exact ⟨_,⟨m,d,h2,B,G,I,J,K,O,U,V⟩,CR fun f g=>by simp only [D2,H4,E7,CZ.mem,CZ.BM8,g]<;>omega⟩)
theorem ye(U:Row 3 v (sh.map (Value.int .i64)) ss)(pos cap:Int)(Z:0<=pos/\pos<=10000)(hc:1<=cap/\cap<=1000000)(X:1<=sh.length/\sh.length<=8)(h0:∀x∈sh,0<=x)(g:sh.sum<=cap):BS prog 9 #[I4 pos,I4 cap,v] [ss] (fun r H'=>∃c:CZ,r= .tuple #[.pointer (some ⟨c.cp,0,none⟩),I4 0]/\c.ok/\(c.its=[]/\c.PL=[]/\c.win=[])/\c.pos=pos/\c.next=0/\c.ns=sh.length/\c.z.cap=cap/\VB c.M c.z.sh sh/\H'=[c.mem,ss]):=FJ (rZ U pos cap Z hc X h0 g) [] (B7) (by
 rintro r H' ⟨c,m,h2,B,G,I,J,K,O,rfl⟩;exact ⟨_,⟨c,m,h2,B,G,I,J,K,O,V⟩,CR fun f W=>by simp only [D2,H4,E7,CZ.mem,CZ.BM8,W]<;>omega⟩)
theorem uQ(O:Row 3 v (sh.map (Value.int .i64)) ss)(pos cap:Int)(W:0<=pos/\pos<=10000)(hc:1<=cap/\cap<=1000000)(U:1<=sh.length/\sh.length<=8)(h0:∀x∈sh,0<=x)(g:sh.sum<=cap):BS prog 9 #[I4 pos,I4 cap,v] [ss] (fun r H'=>∃c:CZ,r= .tuple #[.pointer (some ⟨c.cp,0,none⟩),I4 0]/\c.ok/\(c.its=[]/\c.PL=[]/\c.win=[])/\c.pos=pos/\c.next=0/\c.ns=sh.length/\c.z.cap=cap/\H'=[c.mem,ss]):=(ye O pos cap W hc U h0 g).mono (by
 rintro r H' ⟨c,m,h2,B,G,I,J,K,_,rfl⟩;exact ⟨c,m,h2,B,G,I,J,K,V⟩)
theorem xl(h:c.ok)(G:CL ME (.slice qa cs.length cap) cs)(I:Db p cs)(J:p=c.pos+1):BS prog 15 #[.pointer (some ⟨c.cp,0,none⟩),.agg #[I4 p,.slice qa cs.length cap]] [c.mem,ME] (fun r H'=>∃(d:CZ) (q2:BE) (cap2:Nat) (zs:List CA) (tv:A2) (s:List A8),r= .tuple #[tv,I4 0]/\Hz c d p cs q2 cap2 zs/\Row 9 tv (zs.map Value.string) s/\H'=[d.mem,ME,s]):=FJ (eO h G I J) [] (CR fun f g=>by simp only [D2,H4,E7,CZ.mem,CZ.BM8,g]<;>omega) (by
 rintro r H' ⟨d,q2,cap2,zs,tv,s,K,m,h2,_,B,rfl⟩;exact ⟨_,⟨d,q2,cap2,zs,tv,s,m,h2,B,V⟩,CR fun f g=>by simp only [D2,H4,E7,CZ.mem,CZ.BM8,g]<;>omega⟩)
theorem bQ(h:c.okb)(g:CL ME (.slice qa cs.length cap) cs)(m:Db p cs)(G:p≠c.pos+1):Au prog 15 #[.pointer (some ⟨c.cp,0,none⟩),.agg #[I4 p,.slice qa cs.length cap]] [c.mem,ME] (.tuple #[.slice none 0 0,I4 180]):=Jc (eP h g m G) ((c.sW:List A8)++(c.z.S:List A8)++([(c.mb,.map c.esP c.ckP)]:List A8)++(c.su:List A8)++([(c.ip,.cells #[.map (some c.mq),c.lv] 200 (0,0))]:List A8)++([(c.mq,.map c.esQ c.ckQ)]:List A8)++(c.ML:List A8)++([(c.mi,.map c.esI c.ckI)]:List A8)++([(c.mkb,.map c.esK c.ckK)]:List A8)++(c.SI:List A8)++(c.M:List A8)++(c.MR:List A8)++[]) (CR fun f B=>by simp only [D2,H4,E7,CZ.mem,CZ.BM8,B]<;>omega)
theorem zT(h:c.ok){q:QM}(hq:BH q){k:Nat}(hk:k<c.ns)(J:k<=1000000)(base:Int)(hb:0<=base/\base<=10000){pg:BE}{cg:Nat}{L:List RP}(hL:FV ME (.slice pg L.length cg) L)(I:L.length<=1000000)(G:∀x∈L,x.fits){r0:C8}(K:EJ q L=some r0)(bn:c.next<1000000000)(Z:c.its.length<500)(U:(c.pos -base).toNat<=c.win.length->1+((BI q r0 base (Dj c.pos base c.win)).1.rows.length:Int)<=c.z.fr)(W:AM)(X:Nat×Nat):BS prog 11 #[.pointer (some ⟨c.cp,0,none⟩),.agg #[I4 q.kd,I4 q.tb,I4 q.cl,I4 q.lo,I4 q.hi,I4 q.bq,I4 q.ot,I4 (k:Int),I4 base,.slice pg L.length cg]] [c.mem,ME,[(3,.cells (Lib.pow10Tab.map fun z=>Value.int .u64 z).toArray W X)]] (fun w H'=>∃(b:Bool) (d:CZ),w= .bool b/\d.ok/\c.like d/\(c.next<=d.next/\d.next<=c.next+1)/\uc c d q (k:Int) base L (BI q r0 base (Dj c.pos base c.win)) b/\H'=[d.mem,ME,[(3,.cells (Lib.pow10Tab.map fun z=>Value.int .u64 z).toArray W X)]]):=by
 have B:c.like c:=⟨rfl,rfl,rfl,rfl,rfl⟩;by_cases g:(c.pos -base).toNat<=c.win.length
 · cases hrun:(BI q r0 base (Dj c.pos base c.win)).2.2 with
   |false=>
    refine FJ (A35 h hq hk J base hb hL I G K g hrun W X) ((c.z.S:List A8)++([(c.mb,.map c.esP c.ckP)]:List A8)++(c.su:List A8)++([(c.ip,.cells #[.map (some c.mq),c.lv] 200 (0,0))]:List A8)++([(c.mq,.map c.esQ c.ckQ)]:List A8)++(c.ML:List A8)++([(c.mi,.map c.esI c.ckI)]:List A8)++([(c.mkb,.map c.esK c.ckK)]:List A8)++(c.SI:List A8)++(c.MR:List A8)++[]) (CR fun f m=>by simp only [D2,H4,E7,CZ.mem,CZ.BM8,m]<;>omega) ?_;rintro w H' ⟨rfl,rfl⟩;exact ⟨_,⟨false,c,rfl,h,B,⟨Z1 _,by omega⟩,.inl ⟨rfl,rfl,fun h9=>by rw [hrun]at h9;exact absurd h9.2 B0⟩,rfl⟩,CR fun f m=>by simp only [D2,H4,E7,CZ.mem,CZ.BM8,m]<;>omega⟩
   |true=>
    by_cases hx:∃x∈c.its,x.key=str (DI q)/\base<=x.base
    · obtain ⟨x,hx,ax,af⟩:=hx
      refine FJ (A34 h hq hk J base hb hL I G K g hrun hx ax af W X) ((c.z.S:List A8)++([(c.mb,.map c.esP c.ckP)]:List A8)++(c.su:List A8)++([(c.ip,.cells #[.map (some c.mq),c.lv] 200 (0,0))]:List A8)++([(c.mq,.map c.esQ c.ckQ)]:List A8)++(c.ML:List A8)++([(c.mkb,.map c.esK c.ckK)]:List A8)++(c.MR:List A8)++[]) (CR fun f m=>by simp only [D2,H4,E7,CZ.mem,CZ.BM8,m]<;>omega) ?_;rintro w H' ⟨rfl,rfl⟩;exact ⟨_,⟨true,c,V,h,B,⟨Z1 _,by omega⟩,.inr ⟨V,⟨g,hrun⟩,fun e he=> .inl he,.inl ⟨V,x,hx,ax,af⟩⟩,V⟩,CR fun f m=>by simp only [D2,H4,E7,CZ.mem,CZ.BM8,m]<;>omega⟩
    · have O:∀x∈c.its,x.key=str (DI q)->x.base<base:=fun x h1 h2=>Int.not_le.1 fun h3=>hx ⟨x,h1,h2,h3⟩
      refine FJ (vC h hq hk J base hb hL I G K g hrun bn O Z (U g) W X) [] (CR fun f m=>by simp only [D2,H4,E7,CZ.mem,CZ.BM8,m]<;>omega) ?_;rintro w H' ⟨rfl,d,b,rq,wq,rc,wc,s,tn,cu,h1,h2,h3,_,h5,h6,rfl⟩;exact ⟨_,⟨true,d,V,h1,h2,⟨by omega,by omega⟩,.inr ⟨V,⟨g,hrun⟩,h6,.inr ⟨O,_,h5,V,V,V,V,V,cu⟩⟩,V⟩,CR fun f m=>by simp only [D2,H4,E7,CZ.mem,CZ.BM8,m]<;>omega⟩
 · refine FJ (vH h hq hk J base hb hL I G K g W X) ((c.z.S:List A8)++([(c.mb,.map c.esP c.ckP)]:List A8)++(c.su:List A8)++([(c.ip,.cells #[.map (some c.mq),c.lv] 200 (0,0))]:List A8)++([(c.mq,.map c.esQ c.ckQ)]:List A8)++(c.ML:List A8)++([(c.mi,.map c.esI c.ckI)]:List A8)++([(c.mkb,.map c.esK c.ckK)]:List A8)++(c.SI:List A8)++(c.MR:List A8)++[]) (CR fun f m=>by simp only [D2,H4,E7,CZ.mem,CZ.BM8,m]<;>omega) ?_
   rintro w H' ⟨rfl,rfl⟩;exact ⟨_,⟨false,c,V,h,B,⟨Z1 _,by omega⟩,.inl ⟨V,V,fun h9=>g h9.1⟩,V⟩,CR fun f m=>by simp only [D2,H4,E7,CZ.mem,CZ.BM8,m]<;>omega⟩
theorem WF(p:Int)(q:BE)(cap:Nat)(cs:List Chg)(M:List A8)(hO:CL M (.slice q cs.length cap) cs)(I:Db p cs):Au prog 118 #[.agg #[I4 p,.slice q cs.length cap]] [M] (.tuple #[.string (str (G9 p cs)),I4 0]):=by
 have o8:=mL;obtain ⟨p9,gm,e9,p8,hg⟩:=id hO;injection e9 with e91 e92 e93
 subst e91 e93;have af:=Uc I
 have gq:=I.len;refine Se func118 ntmps118 [0] ?_;intro u R;refine A3<|Ze (Bx #[_,_])<|AF fun b1=>Za Y<|CT Y<|A3<|Zo Wh (Pa #[_,_] HN E0 Y)<|Xr [_] Y call42 Y V (KT p q cap cs M hO) ?_;rw [DE I];refine Zv (Bo Y)<|A4<|AY Y (fun hv=>by cases hv)<|fun hv=>AC<|C6<|Zh 0 GS V rfl A6 Y<|Zl AE Y<|Zh 1 GS V rfl Kf Y<|Zl MA Y<|Zv (AR GO Y)<|Ze (Ah (vs:=[_,_]) (cs:=[_,_]) DP A6 HT Y V rfl V rfl V)<|AF fun gb=>Xr [_] Y call204 Y V (TR gb 0 2 _ _ _ [p,(cs.length:Int)] (bg [p,(cs.length:Int)]) B7 af)<|B2 Y<|Zn [1,4] ?_;refine Zx<|Zq<|A3<|Zh 1 GS V rfl Kf Y<|Zl MA Y<|Zv (AR GO Y)<|Zm Y<|A4<|AQ<|Zb [4,22,20,21] ?_;refine Aw (e0:=[(4,_),(22,_)]) (fun m e H=>∃(i:Nat),m=cs.length -i/\(i<=cs.length)/\e=[(4,.string (str (El [p,(cs.length:Int)]++(cs.take i).flatMap VY))),(22,I4 (i:Int))]/\H=[]) (by exact ⟨0,rfl,CM _,by rw [JT,tE,E7];rfl,rfl⟩) Wp ?_;rintro _ _ _ ⟨i,rfl,hi,rfl,rfl⟩;refine A3<|Zv (Ap Y Y)<|A4<|Zq<|Ak Y (fun W=>?_) (fun W=>?_);·
  obtain ⟨x,hx⟩:∃x,cs[i]?=some x:=⟨_,BT W⟩;obtain ⟨g,off,cur,T,zz,rfl,hm,pg,cO⟩:=hg i x hx;obtain ⟨X,Z,d9,o9⟩:=mV (I.all i x hx);have gy:=ES _ X
  have gQ:=ES _ Z;have pq:=rH I i
  have l9:[x.t,x.k,fl2 x].length=3:=rfl;have l5:=xc x
  have l8:=AE7 x;refine B3<|Zq<|AQ<|A3<|BX (AZ GO Cl Y Y Q2)<|Bu (cs:=[(g,.cells cur T zz)]) (by simp [hm]) (A9 (cs:=x.BM3) HD Cl Y A0 cO) rfl rfl<|Ze (Al N1 #[_,_,_,_,_,_,_,_,_,_])<|AF fun O=>Xe (Xw Cl x.BM3)<|A4<|Zq<|Bc<|Zg<|Za Y<|AH Y<|Zb [7,8,4,6,20,21,22] ?_;refine CP (e0:=[(7,_),(8,_)]) (H0:=[[(O,.cells x.BM3 73 (0,0))],[]]) (fun e H=>∃(v:A2) (K:List A8),(Row 3 v ((vs1 x).map iV) K)/\e=[(7,I4 (fl1 x)),(8,v)]/\H=[[(O,.cells x.BM3 73 (0,0))],K]) Wp ?hx_2 ?hy_2
  case hx_2=>
   refine A3<|Zh 2 CC V rfl F1 Y<|Zl G0 Y<|A4<|AY Y (fun B=>?_) (fun B=>?_);·
    refine Zg<|Zm Y<|Zh 3 CC V rfl E4 Y<|Zv (FY K1 A6 Y)<|Ze (PG (by_:=8) DP (V:Tryz.prog.info? 3=some Tryz.t3) V rfl V rfl Y (Gg 3) Y (lH (cur:=x.BM3) (ys:=[iV x.o.a,iV x.o.b,iV x.o.c]) (o:=3) V B0 V) Wo Wo (by simp [iV,Value.oneCell']) Kd B7) ?_;rintro _ _ ⟨sa,ax,rfl⟩;obtain ⟨ga,ca,rfl⟩:=ax.form;refine Za Y<|B2 Y<|HB (e:=[(7,_),(8,_)]) (h:=by exact ⟨_,sa,by rw [tY B];exact ax,by rw [yp B],rfl⟩)
   refine AC<|HB (e:=[(7,_),(8,_)]) (h:=by exact ⟨.slice none 0 0,[],by rw [tg B];exact Gg _,by rw [yq B],rfl⟩)
  rintro _ _ ⟨v,K,cu,rfl,rfl⟩;refine Zb [7,8,4,6,20,21,22] ?_;refine CP (e0:=[(7,_),(8,_)]) (H0:=[[(O,.cells x.BM3 73 (0,0))],K]) (fun e H=>∃(v:A2) (K:List A8),(Row 3 v ((vs2 x).map iV) K)/\e=[(7,I4 (fl2 x)),(8,v)]/\H=[[(O,.cells x.BM3 73 (0,0))],K]) Wp ?hx_5 ?hy_5
  case hx_5=>
   refine A3<|Zh 6 CC V rfl F1 Y<|Zl G0 Y<|A4<|AY Y (fun G=>?_) (fun G=>?_);·
    refine Zg<|Zm Y<|Yi Y Y<|Zm Y<|Zh 7 CC rfl rfl E4 Y<|Zv (FY K1 A6 Y)<|Ze (PG (by_:=8) DP (rfl:Tryz.prog.info? 3=some Tryz.t3) rfl rfl rfl rfl Y (cu) Y (lH (cur:=x.BM3) (ys:=[iV x.n.a,iV x.n.b,iV x.n.c]) (o:=7) rfl B0 rfl) Wo Wo (by simp [iV,Value.oneCell']) (by rw [Bk];simp;omega) (by rw [Bk];simp;omega)) ?_;rintro _ _ ⟨sb,bn,rfl⟩;obtain ⟨gb,O,rfl⟩:=bn.form;refine Za Y<|B2 Y<|HB (e:=[(7,_),(8,_)]) (h:=by exact ⟨_,sb,by rw [kw G,CN];exact bn,by rw [yn G],rfl⟩)
   refine AC<|HB (e:=[(7,_),(8,_)]) (h:=by exact ⟨v,K,by rw [ky G];exact cu,by rw [yo G],rfl⟩)
  rintro _ _ ⟨v2,pz,ek,rfl,rfl⟩;obtain ⟨gv,cv,U,zv,rfl,rfl,ic,j3,j5,J,kv⟩:=ek.some (by rw [Bk];exact d9);rw [Bk]at J⊢;refine Zg<|Zm Y<|Zh 0 CC V rfl A6 Y<|Zl AE Y<|Zh 1 CC V rfl A6 Y<|Zl AE Y<|Zm Y<|Ze (Ah (vs:=[_,_,_]) (cs:=[_,_,_]) DP A6 HT Y V rfl V rfl V)<|AF fun gp=>Xr [_] Y call204 Y rfl (TR gp 0 3 _ _ _ [x.t,x.k,fl2 x] (bg [x.t,x.k,fl2 x]) B7 X)<|Zm Y<|Xr [_] Y call204 Y rfl (TR gv 0 cv U _ zv (vs2 x) (A80 J) A0 Z)<|BX (JO Y Y (by rw [D5,D5];omega))<|BX (JO Y Y (by rw [LA,D5,D5];have h9:(El [x.t,x.k,fl2 x]++El (vs2 x)).length=_:=C0;omega))<|B2 Y<|Zn [4,20,21,22] ?_;refine AA<|Zx<|Dg Y Y Y<|DG (e:=[(4,_),(22,_)]) (h:=by exact ⟨i+1,rfl,by omega,by rw [AB0 _ hx,<-LA (El [p,(cs.length:Int)]++(cs.take i).flatMap VY),<-LA (El [x.t,x.k,fl2 x]) (El (vs2 x))],rfl⟩)
 refine BA<|Zt<|Zt<|AX<|Zx<|AK Y<|Za Y<|An Y<|DR rfl results118 Y Y (by exact ⟨by rw [Kx A0];rfl,rfl⟩)
theorem lc(h:Cw)(p:Int)(q:BE)(cap:Nat)(cs:List Chg)(st:List UInt8)(M:List A8)(W:CL M (.slice q cs.length cap) cs)(g:Db p cs)(hp:p=h.p+1)(hc:h.ch.length=32)(hs:h.st.length=32)(m:st.length=32)(B:AM)(O:Nat×Nat):Au prog 51 #[.agg #[I4 h.p,.string (str h.ch),.string (str h.st)],.agg #[I4 p,.slice q cs.length cap],.string (str st)] [M,[(0,.cells (Dn.map CW).toArray B O)]] (.tuple #[.agg #[I4 p,.string (str (Hq h.ch (G9 p cs))),.string (str st)],I4 0]):=by
 have Z:=mL;have J:=g.len
 have K:=g.pos;have X:=Oi g
 refine Se func51 ntmps51 [0,1,2] ?_;intro u R;refine A3<|Ze (Bx #[_,_,_])<|AF fun b1=>Ze (Bx #[_,_])<|AF fun b2=>Ze (Al ON #[_,_,_])<|AF fun b3=>AH Y<|A3<|Zo Wh (Pa #[_,_] HN E0 Y) ?_;refine Xr [_] Y call118 Y V (WF p q cap cs M W g) ?_;refine Zm Y<|Zd Y V<|Zd Y V<|Za Y<|AH Y<|B8 Y<|Zv (Cm (n:=0) Y Y)<|Zm Y<|Af (t:=17) Y V (fun G=>?_) (fun G=>?_);·
  exfalso;exact G rfl
 refine D6 Y Wh (Pa #[_,_,_] Lo HM Y) V rfl ?_;refine Xr [_] Y call119 Y V (Pt h.p h.ch h.st) ?_;rw [DE (⟨⟨by omega,by omega⟩,hc,hs⟩:(0<=h.p/\h.p<=10000)/\h.ch.length=32/\h.st.length=32)];refine Yg (Bo Y)<|B9 Y Y<|Zm Y<|Ad (t:=22) Y V (fun h2=>by cases h2)<|fun h2=>Zf Y Y<|Xr [_] Y call28 Y V (UK st) ?_;rw [DE m];refine Yg (Bo Y)<|B9 Y Y<|Zm Y<|Ad (t:=27) Y V (fun I=>by cases I)<|fun I=>Yf 0 GS V rfl A6 Y<|Yl AE Y ?_;refine Yf 0 OK V rfl A6 Y<|Yl AE Y ?_;refine Gy Y (J6 Y Y (IntWalk.i64_in _ A0)) V rfl ?_;refine Yg (I8 Y Y)<|B9 Y Y<|Z0<|Zn [2,3,4,6,8,34] ?_;refine Zx<|Ak Y (fun U=>?_) (fun U=>?_);·
  exfalso;contradiction
 refine B3<|Zq<|Ay (n:=10) (0::1::0::4::0::28::0::127::255::511::[]) 288 AD AD V<|A1 0 V (AB (off:=0) GS V rfl A6 Y)<|Bm 1 V AE Y ?_;refine A1 2 V (AB (off:=1) OK V rfl FG Y)<|Bm 3 V H3 Y ?_;refine A1 4 V (AP Y)<|A1 6 V (AP Y)<|Zz (l:=[5])<|BW [false,true] [(1,(_,_))] V rfl (Zu [_,_] Y call120 Y V (Uv h.ch (G9 p cs) A0 B O)) ?_ (fun _ _ h=>h.elim) Aj;rintro _ _ ⟨rfl,rfl⟩;refine C3<|A1 7 rfl (BN (vs:=[(0,_),(1,_),(2,_)]) (cs:=#[_,_,_]) Y (Aa (pl:=#[(0,1),(1,1),(2,1)]) ON OK (fun _=>by kernel_rfl) rfl))<|Yw 8 511 rfl (BJ HM Y Y (by(simp [Value.oneCell',Value.cells];done)) Wu B1 G4 Wb (by exact BB _))<|F0<|A1 9 V (BC Y)<|Aq<|Zx<|AL<|CS V results51 Y Wh (Av Lo HM Wn (V)) Y (by exact ⟨V,V⟩)
theorem xf(st:List UInt8)(B:st.length=32):BS prog 6 #[.string (str st)] [] (fun r H'=>∃m g,r= .tuple #[I5 m,I4 0]/\H'=[[(m,.cells #[.slice none 0 0,I6 g 1 1] 93 (0,0))],[(g,.cells #[I4 0,.string (str Xd),.string (str st)] 66 (0,0))]]):=by
 refine Se func6 ntmps6 [0] ?_;intro u R;refine A3<|Za Y<|AH Y<|B8 Y<|Xr [_] Y call28 Y V (UK st) ?_;rw [DE B];refine Zv (Bo Y)<|A4<|AY Y (fun h2=>by cases h2)<|fun h2=>AC<|C6<|Xr [_,_] Y call29 Y V (aQ)<|Zm Y<|Zv (BN (vs:=[(1,_),(2,_)]) (cs:=#[_,_,_]) Y (Aa (pl:=#[(0,1),(1,1),(2,1)]) ON OK (fun _=>by kernel_rfl) V))<|Ze (Ah (vs:=[_]) (cs:=[_,_,_]) aw HM ON Y V rfl V rfl V)<|AF fun g=>Zv (BN (vs:=[(1,_)]) (cs:=#[_,_]) Y (Aa (pl:=#[(0,1),(1,1)]) zeroValue93 cN (fun _=>by kernel_rfl) V))<|Ze (Bx #[_,_])<|AF fun m=>Za Y<|B2 Y<|Zn [2,3] ?_;refine Zx<|AL<|DR V results6 Y Y (by exact ⟨m,g,V,V⟩)
theorem wR(p:Int)(q:BE)(cap:Nat)(cs:List Chg)(M:List A8)(I:CL M (.slice q cs.length cap) cs)(h0:0<cs.length)(hn:cs.length<=1000000):BS prog 52 #[.agg #[I4 p,.slice q cs.length cap]] [M] (fun r H'=>∃B g G,r= .agg #[I4 p,.slice B cs.length g]/\BU 10 73 (.slice B cs.length g) cs.length (CV cs) G/\H'=[G,M]):=by
 refine Se func52 ntmps52 [0] ?_;intro u R;refine A3<|Ze (Bx #[_,_])<|AF fun J=>Ze (Al N2 #[_,_])<|AF fun K=>A4<|A3<|Zh 1 GS V rfl Kf Y<|Zl MA Y ?_;refine Zc [_] Y call106 Y V (ry I h0 hn) ?_;rintro _ _ ⟨_,⟨G,m,rfl⟩,rfl⟩;obtain ⟨B,g,rfl⟩:=m.form;refine Zh 1 GS rfl rfl Kf Y<|Xe (Zs Kf Y Y rfl (hi:=by first|omega|decide|(simp;done))) ?_;refine A4<|A3<|Zo Wh (Pa #[_,_] HN E0 Y) ?_;refine Xe (Xw E0 _) ?_;refine A4<|AL<|D7 V results52 Y Wh (Av HN E0 Wn (V)) (by exact ⟨B,g,G,V,m,V⟩)
theorem VX(a b:List Cw):EQ (a++b)=EQ a++EQ b:=by unfold EQ;rw [On]
theorem wN{cur:AN}{g:List Cw}{x:Cw}(m:g.length*3+3<=cur.size)(h:(cur.extract (g.length*3) (g.length*3+3)).toList=((EQ (g++[x])).drop (g.length*3)).take 3):cur.extract (g.length*3) (g.length*3+3)=#[I4 x.p,.string (str x.ch),.string (str x.st)]:=by
 apply J0.1;rw [h];exact Gi (fun h:Cw=>[I4 h.p,.string (str h.ch),.string (str h.st)]) 3 (fun _=>rfl) (g++[x]) g.length x (by rw [TO (D0 _),W5];rfl)
set_option maxHeartbeats 2000000 in
theorem pU(xp:Nat)(K:List Cw)(x:Cw)(rs:List BF)(vr vh:A2)(sr sh:List A8)(p:Int)(q:BE)(cap:Nat)(cs:List Chg)(st:List UInt8)(M:List A8)(hO:CL M (.slice q cs.length cap) cs)(G:Db p cs)(hp:p=x.p+1)(hc:x.ch.length=32)(af:x.st.length=32)(ax:st.length=32)
 (X:BU 3 66 vh (K.length+1) (EQ (K++[x])) sh)(I:BU 2 55 vr rs.length (Da rs) sr)(l8:K.length<=1000000)(l9:rs.length<=1000000)(Tg:AM)(zg:Nat×Nat):
 BS prog 16 #[I5 xp,.agg #[I4 p,.slice q cs.length cap],.string (str st)] [[(xp,.cells #[vr,vh] 93 (0,0))],sr,sh,M,[(0,.cells (Dn.map CW).toArray Tg zg)]] (fun r H'=>r=I4 0/\∃ek d9 cO cu O g sq,BU 10 73 (.slice O cs.length g) cs.length (CV cs) sq/\BU 2 55 ek (rs.length+1) (Da (rs++[⟨p,O,g,cs⟩])) cO/\
  BU 3 66 d9 (K.length+2) (EQ (K++[x,⟨p,Hq x.ch (G9 p cs),st⟩])) cu/\H'=[[(xp,.cells #[ek,d9] 93 (0,0))],cO,cu,sq,M,[(0,.cells (Dn.map CW).toArray Tg zg)]]):=by
 have l5:=mL;have j3:=G.len
 have j5:=G.pos;have kv:=Oi G
 obtain ⟨qr,gy,rfl⟩:=I.form;obtain ⟨gh,gq,ic,zh,rfl,rfl,bn,U⟩:=H7 X K.length A0;have gm:=wN bn U
 refine Se func16 ntmps16 [0,1,2] ?_;intro u R;refine A3<|Ze (Bx #[_,_])<|AF fun b1=>CT Y<|A3<|Zm Y ?_;first|refine BX (O1 underlying28 Y Y) ?_|refine BX (Bb underlying28 Y Y) ?_
 refine A4<|AY Y (fun h1=>by cases h1)<|fun h1=>B3<|Zb [2,0,4] ?_;refine CP (e0:=[(2,_)]) (H0:=[]) (fun e H=>∃(hb:Nat),(True)/\e=[(7,I5 hb),(8,I4 0)]/\H=[[(hb,.cells #[I4 p,.string (str (Hq x.ch (G9 p cs))),.string (str st)] 66 (0,0))]]) Wp ?hx_1 ?hy_1
 case hx_1=>
  refine Ay (n:=21) (0::1::3::7::0::16::48::112::240::496::1023::2047::0::0::16383::32767::65535::65535::0::393215::1048575::[]) 802816 AD AD V<|A1 0 V (AP Y)<|A1 1 V (Ao Y V)<|A1 2 V (AB (off:=1) cN V rfl fh Y)<|Bm 3 V isAgg91 Y ?_;refine A1 4 V (AP Y)<|A1 5 V (Ao Y V)<|A1 6 V (AB (off:=1) cN V rfl fh Y)<|Bm 7 V isAgg91 Y ?_;refine A1 8 V (AR aw Y) ?_;first|(refine F5 (D':=1023) 9 (CQ (n:=1) Y Y ?_ ?_) ?_;(focus (omega));(focus (omega)))|(refine F5 (D':=1023) 9 (GZ Y Y (IntWalk.i64_in _ ?_)) ?_;(focus (omega)))
  refine A1 10 rfl (AZ aw HM Y Y Q2)<|G3 11 rfl Wh (A9 (cs:=#[_,_,_]) Lo HM Y Wb (by simpa using gm)) ?_;refine G3 12 V Wh (Pa #[_,_] HN E0 Y) ?_;refine A1 13 V (AP Y)<|Zz (l:=[14,18])<|BW [false,false,false,false] [] V rfl (Zu [_,_,_] Y call51 Y V (lc x p q cap cs st M hO G hp hc af ax Tg zg)) ?hk_2 (fun _ _ h=>h.elim) ?hl_2
  case' hk_2=>
   rintro _ _ ⟨rfl,rfl⟩;refine C3<|A1 15 V (AP Y)<|A1 16 V (C9 Y V)<|A1 17 V (C9 Y V)<|Zz (l:=[18])<|BW [] [] V rfl (Al ON #[_,_,_]) ?hk_3 (fun _ _ h=>h.elim) ?hl_3
   case' hk_3=>
    rintro _ _ ⟨b2,rfl,rfl⟩;refine C3<|Yz 19 393215 1048575 [] [] [] V Y V rfl V rfl (Xw HM #[I4 p,.string (str (Hq x.ch (G9 p cs))),.string (str st)]) ?_
   case' hl_3=>
    exact Aj
  case' hl_2=>
   refine BW [true,true,true,true] [(12,(_,_)),(11,(_,_)),(7,(_,_)),(3,(_,_))] V rfl (Al ON #[_,_,_]) ?hk_6 (fun _ _ h=>h.elim) ?hl_6
   case' hk_6=>
    rintro _ _ ⟨b3,rfl,rfl⟩;refine C3<|Yw 14 294911 V (Zu [_,_,_] Y call51 Y V (lc x p q cap cs st M hO G hp hc af ax Tg zg))<|F0<|A1 15 V (AP Y)<|A1 16 V (C9 Y V)<|A1 17 V (C9 Y V)<|Zz (l:=[19])<|BW [] [] V rfl (Xw HM #[I4 p,.string (str (Hq x.ch (G9 p cs))),.string (str st)]) ?hk_8 (fun _ _ h=>h.elim) ?hl_8
    case' hl_8=>
     exact Aj
   case' hl_6=>
    exact Aj
  all_goals
   rintro _ _ ⟨rfl,rfl⟩;refine C3<|A1 20 V (BC Y)<|Aq<|HB (e:=[(7,_),(8,_)]) (h:=by exact ⟨_,trivial,V,V⟩)
 rintro _ _ ⟨hb,_,rfl,rfl⟩;refine Zq<|A3<|Zm Y ?_;first|refine BX (Cm (n:=0) Y Y) ?_|refine BX (I8 Y Y) ?_
 refine Z0<|Zx ?_;first|refine Ak Y (fun h2=>?_) (fun h2=>?_)|refine AY Y (fun h2=>?_) (fun h2=>?_)
 ·
  exfalso;first|exact h2 rfl|(cases h2;done)|contradiction|omega|(simp_all;done)
 refine B3<|Zq<|Ay (n:=23) (0::0::0::4::12::28::0::64::192::508::0::1024::3072::7168::0::16384::65532::131069::262141::524285::1048575::2097151::4194303::[]) 4817792 AD AD V<|A1 0 V (AP Y)<|A1 1 V (AP Y)<|A1 2 V (AP Y)<|A1 3 V (Ao Y V)<|A1 4 V (AB (off:=0) cN V rfl Lz Y)<|Bm 5 V W6 Y ?_;refine G3 6 V Wh (Pa #[_,_] HN E0 Y) ?_;refine A1 10 V (AP Y)<|A1 11 V (Ao Y V)<|A1 12 V (AB (off:=1) cN V rfl fh Y)<|Bm 13 V isAgg91 Y ?_;refine G3 14 V Wh (Pa #[_,_,_] Lo HM Y) ?_;refine Zz (l:=[7,15])<|BW [true,true,false,true] [(14,(_,_)),(13,(_,_)),(5,(_,_))] V rfl (Zw [_] Y call52 Y V (wR p q cap cs M hO A0 A0)) ?hk_10 Bv ?hl_10
 case' hk_10=>
  rintro _ _ ⟨_,⟨O,g,sq,rfl,Z,rfl⟩,rfl⟩;refine C3<|Zz (l:=[8,15])<|BW [true,true,true] [(14,(_,_)),(13,(_,_)),(5,(_,_))] V rfl (Ah (vs:=[_]) (cs:=[_,_]) G2 E0 N2 Y V rfl V rfl V) ?hk_11 (fun _ _ h=>h.elim) ?hl_11
  case' hk_11=>
   rintro _ _ ⟨B,rfl,rfl⟩;refine C3<|Zz (l:=[9,15])<|BW [true,true,false] [(14,(_,_)),(13,(_,_))] V rfl (BP (by_:=32) (sz:=2) G2 (V:Tryz.prog.info? 55=some Tryz.t55) V rfl V rfl Y (I) Y (Cu 2 B 1 1 55 (0,0) [I4 p,.slice O cs.length g] V) Wo Wo HO A0 A0) ?hk_12 (fun _ _ h=>h.elim) ?hl_12
   case' hk_12=>
    rintro _ _ ⟨sR,m,rfl⟩;refine ⟨Zk (Zk (Ab)),?_⟩;obtain ⟨gR,cR,rfl⟩:=m.form;refine Yz 15 16384 65535 [14,13] [false,true] [(13,(_,_))] V Y V rfl V rfl (Ah (vs:=[_]) (cs:=[_,_,_]) aw HM ON Y V rfl V rfl V) ?_;rintro _ _ ⟨J,rfl,rfl⟩;refine ⟨Zk (Ab),?_⟩
   case' hl_12=>
    refine BW [false,true,true] [(13,(_,_)),(5,(_,_))] V rfl (Ah (vs:=[_]) (cs:=[_,_,_]) aw HM ON Y V rfl V rfl V) ?hk_18 (fun _ _ h=>h.elim) ?hl_18
    case' hk_18=>
     rintro _ _ ⟨J,rfl,rfl⟩;refine C3<|Yz 9 508 65535 [13,5] [true,false] [(13,(_,_))] V Y V rfl V rfl (BP (by_:=32) (sz:=2) G2 (V:Tryz.prog.info? 55=some Tryz.t55) V rfl V rfl Y (I) Y (Cu 2 B 1 1 55 (0,0) [I4 p,.slice O cs.length g] V) Wo Wo HO A0 A0) ?_;rintro _ _ ⟨sR,m,rfl⟩;refine ⟨Zk (Ab),?_⟩;obtain ⟨gR,cR,rfl⟩:=m.form
    case' hl_18=>
     exact Aj
  case' hl_11=>
   refine BW [false,true,true] [(13,(_,_)),(5,(_,_))] V rfl (Ah (vs:=[_]) (cs:=[_,_,_]) aw HM ON Y V rfl V rfl V) ?hk_24 (fun _ _ h=>h.elim) ?hl_24
   case' hk_24=>
    rintro _ _ ⟨J,rfl,rfl⟩;refine C3<|Yz 8 192 65023 [13,5] [true,true] [(13,(_,_)),(5,(_,_))] V Y V rfl V rfl (Ah (vs:=[_]) (cs:=[_,_]) G2 E0 N2 Y V rfl V rfl V)<|AF fun B=>C3<|Yz 9 508 65535 [13,5] [true,false] [(13,(_,_))] V Y V rfl V rfl (BP (by_:=32) (sz:=2) G2 (V:Tryz.prog.info? 55=some Tryz.t55) V rfl V rfl Y (I) Y (Cu 2 B 1 1 55 (0,0) [I4 p,.slice O cs.length g] V) Wo Wo HO A0 A0) ?_;rintro _ _ ⟨sR,m,rfl⟩;refine ⟨Zk (Ab),?_⟩;obtain ⟨gR,cR,rfl⟩:=m.form
   case' hl_24=>
    exact Aj
 case' hl_10=>
  refine BW [false,true,true,true] [(13,(_,_)),(6,(_,_)),(5,(_,_))] V rfl (Ah (vs:=[_]) (cs:=[_,_,_]) aw HM ON Y V rfl V rfl V) ?hk_31 (fun _ _ h=>h.elim) ?hl_31
  case' hk_31=>
   rintro _ _ ⟨J,rfl,rfl⟩;refine C3<|Zz (l:=[7])<|BW [true,false,true] [(13,(_,_)),(5,(_,_))] V rfl (Zw [_] Y call52 Y V (wR p q cap cs M hO A0 A0)) ?hk_32 Bv ?hl_32
   case' hk_32=>
    rintro _ _ ⟨_,⟨O,g,sq,rfl,Z,rfl⟩,rfl⟩;refine C3<|Yz 8 192 65023 [13,5] [true,true] [(13,(_,_)),(5,(_,_))] V Y V rfl V rfl (Ah (vs:=[_]) (cs:=[_,_]) G2 E0 N2 Y V rfl V rfl V)<|AF fun B=>C3<|Yz 9 508 65535 [13,5] [true,false] [(13,(_,_))] V Y V rfl V rfl (BP (by_:=32) (sz:=2) G2 (V:Tryz.prog.info? 55=some Tryz.t55) V rfl V rfl Y (I) Y (Cu 2 B 1 1 55 (0,0) [I4 p,.slice O cs.length g] V) Wo Wo HO A0 A0) ?_;rintro _ _ ⟨sR,m,rfl⟩;refine ⟨Zk (Ab),?_⟩;obtain ⟨gR,cR,rfl⟩:=m.form
   case' hl_32=>
    exact Aj
  case' hl_31=>
   exact Aj
 all_goals
  refine Yw 16 131071 V (BP (by_:=40) (sz:=3) aw (V:Tryz.prog.info? 66=some Tryz.t66) V rfl V rfl Y (X) Y (Cu 3 J 1 1 66 (0,0) [I4 p,.string (str (Hq x.ch (G9 p cs))),.string (str st)] V) Wo Wo HO A0 A0) ?_;rintro _ _ ⟨sQ,W,rfl⟩;obtain ⟨gQ,cQ,rfl⟩:=W.form;refine A1 17 rfl (Ao Y rfl)<|A1 18 rfl (AB (off:=0) cN rfl rfl Lz Y)<|Zz (l:=[19])<|BW [] [] rfl rfl (Zs Lz Y Y rfl (hi:=by first|omega|decide|(simp;done))) ?_ (fun _ _ h=>h.elim) Aj;rintro _ _ ⟨rfl,rfl⟩;refine C3<|A1 20 rfl (Ao Y rfl)<|A1 21 rfl (AB (off:=1) cN rfl rfl fh Y)<|Zz (l:=[22])<|BW [] [] rfl rfl (Zs fh Y Y rfl (hi:=by first|omega|decide|(simp;done))) ?_ (fun _ _ h=>h.elim) Aj;rintro _ _ ⟨rfl,rfl⟩;refine C3<|Aq<|Zn [] ?_;refine C6<|An Y<|AO rfl results16 Y (by exact ⟨rfl,_,_,sR,sQ,O,g,sq,Z,BZ m rfl (by rw [JD];rfl),BZ W rfl (by rw [show K++[x,(⟨p,Hq x.ch (G9 p cs),st⟩:Cw)]=K++[x]++[⟨p,Hq x.ch (G9 p cs),st⟩] by simp,VX (K++[x])];rfl),rfl⟩)
end Go.Proofs.YtlkdhannldcfbabGreatDoor
