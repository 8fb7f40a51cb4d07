/- Apply. -/
import Derived.Test.YtfhjaegddfehhabGreatDoorCa11
set_option linter.unusedVariables false
set_option linter.unusedSimpArgs false
namespace Go.Proofs.YtfhjaegddfehhabGreatDoor
open Go.Proofs.Tryz
open Go Go.RowKit Gw
set_option maxRecDepth 100000
attribute [local irreducible] Gw.At Gw.Nx Gw.Ops
theorem SC{α:Type}{l:List α}(hn:l.Nodup){i:Nat}{x:α}(h:l[i]?=some x):x∉l.take i:=fun g=>by
 have h2:l=l.take i++x::l.drop (i+1):=by
  obtain ⟨m,B⟩:=C4.1 h;rw [<-B,<-S8 m,K1]
 rw [h2,HA]at hn;exact hn.2.2 x g x (EV ..) V
variable{c:CZ}{p:Int}{qa:B6}{cap:Nat}{cs:List Chg}{ME:List A9}
theorem bY(h:c.ok)(hC:Cf ME (.slice qa cs.length cap) cs)(hR:EM p cs)(hp:p=c.pos+1):BZ prog 14 #[.pointer (some ⟨c.cp,0,none⟩),.agg #[I4 p,.slice qa cs.length cap]] [[(c.cp,.cells c.BA1 87 (0,0))],c.sW,c.z.S,[(c.mb,.map c.esP c.ckP)],c.su,[(c.ip,.cells #[.map (some c.mq),c.lv] 163 (0,0))],[(c.mq,.map c.esQ c.ckQ)],c.ML,[(c.mi,.map c.esI c.ckI)],[(c.mkb,.map c.esK c.ckK)],c.SI,c.M,c.MR,ME] (fun r H'=>∃(d:CZ) (q2:B6) (cap2:Nat) (zs:List Bk) (tv:A3) (s sM:List A9),r= .tuple #[tv,I4 0]/\GH c d p cs q2 cap2 zs/\d.M=sM++c.M/\Row 9 tv (zs.map Value.string) s/\H'=[[(d.cp,.cells d.BA1 87 (0,0))],d.sW,d.z.S,[(d.mb,.map d.esP d.ckP)],d.su,[(d.ip,.cells #[.map (some d.mq),d.lv] 163 (0,0))],[(d.mq,.map d.esQ d.ckQ)],d.ML,[(d.mi,.map d.esI d.ckI)],[(d.mkb,.map d.esK d.ckK)],d.SI,d.M,d.MR,ME,s]):=by
 have zu:=mL;obtain ⟨p9,zf,e9,zy,zt⟩:=id hC;injection e9 with e91 e92 e93
 subst e91 e93;have Gl:=h.pos
 have FT:=hR.pos;have zq:=hR.len
 have Hf:=h.wl;have Gw:=Ew h.win
 have j5:∀ch∈cs,ch.ok:=fun ch bn=>by
  obtain ⟨i,hi⟩:=HE bn;exact hR.all i ch hi
 have ve:∀x∈c.its.map ItM.iq,BF x.2:=fun y hy=>by
  obtain ⟨x,hx,rfl⟩:=C3.1 hy;exact h.its.q x hx
 have sO:(c.its.map ItM.iq).length<=500:=by rw [B8];exact h.its.len
 refine DT func14 V ntmps14 V ?_;intro u R;refine Zb [0,1] ?_;refine A0<|Ze (Bx #[_])<|AG fun bc=>Ze (Bx #[I4 p,.slice qa cs.length cap])<|AG fun br=>Za Y<|A4 Y<|Zq<|AQ<|A0<|Zl L7 Y ?_;refine Zv (Be Lz Y Y)<|A4 Y<|AU Y (fun j3=>by cases j3)<|fun j3=>Zq<|Az (n:=14) (0::1::3::7::15::31::15::79::207::463::975::2047::4095::8191::[]) 2 AE AE V<|Fk 0 V Wh (AA (cs:=#[_,_]) HP F1 Y B1 (BK V)) ?_;refine Yw 1 3 V (Zu [_] Y call44 Y V (QA p qa cap cs ME hC)) ?_;rintro _ _ ⟨rfl,rfl⟩;rw [DE hR];refine A2 2 V (Br Y)<|A2 3 V (AP Y)<|Ch (t:=19) Y (fun g1=>?_) (fun g1=>?_);·
  rw [g1];cases g1
 rw [g1];refine B3 4 V (AB (off:=0) Ge V rfl A6 Y)<|DQ 5 V Wh (BO AF Y As) ?_;refine DQ 6 V Wh (BO L7 Y As) ?_;refine B3 7 V (Ap Y V)<|B3 8 V (AB (off:=0) FG V rfl A6 Y)<|DQ 9 V Wh (BO AF Y As) ?_
 (refine B3 10 rfl (Hg Y Y (IntWalk.i64_in _ ?_)) ?_;(focus (omega)))
 refine B3 11 V (LZ Y Y)<|A2 12 V (AL Y Y)<|A2 13 V (Aw Y)<|Ag<|Zn [2,3,15] ?_;refine Zx<|Aq Y (fun h3=>by omega)<|fun h3=>AC<|A8<|Zx<|A0<|Zl L7 Y ?_;refine Zh 0 Ge V rfl A6 Y<|Zl AF Y ?_;refine Zp Y V<|Zh 0 FG V rfl A6 Y<|Xe (Zs A6 Y Y V) ?_;refine A5<|Zq<|Az (n:=12) (0::0::2::6::14::0::32::96::254::511::1023::2047::[]) 2496 AE AE V<|B9 0 V L7 Y ?_;refine B9 1 V L7 Y ?_;refine A2 2 V (Ap Y V)<|A2 3 V (AB (off:=1) FG V rfl PA Y)<|B9 4 V ZS Y ?_;refine Fk 5 V Wh (AA (cs:=#[_,_]) HP F1 Y B1 (BK V)) ?_;refine Zz (l:=[6])<|B5 [false,true,true,true] [(4,(_,_)),(1,(_,_)),(0,(_,_))] V rfl (Zw [_] Y call45 Y V (R7 p hC A1)) ?_ Bw Ah;rintro _ _ ⟨_,⟨q2,cap2,s2,rfl,gy,rfl⟩,rfl⟩;refine BT<|Yz 7 96 255 [4,1,0] [true,true,true] [(4,(_,_)),(1,(_,_)),(0,(_,_))] V Y V rfl V rfl (Ai (vs:=[_]) (cs:=[_,_]) GO F1 S2 Y V rfl V rfl V)<|AG fun gb=>BT<|Yz 8 254 511 [4,1,0] [false,false,true] [(0,(_,_))] V Y V rfl V rfl (BR (by_:=32) (sz:=2) GO (V:Tryz.prog.info? 50=some Tryz.t50) V rfl V rfl Y (h.win) Y (DN 2 gb 1 1 50 (0,0) [I4 p,.slice q2 cs.length cap2] V) Wo Wo GP A1 A1) ?_;rintro _ _ ⟨J,af,rfl⟩;refine ⟨Zk (Aa),?_⟩;obtain ⟨X,O,rfl⟩:=af.form;refine A2 9 V (Ap Y V)<|A2 10 V (AB (off:=1) FG V rfl PA Y)<|Zz (l:=[11])<|B5 [false] [] V rfl (Zs PA Y Y V (hi:=by(simp;done))) ?_ (fun _ _ h=>h.elim) Ah;rintro _ _ ⟨rfl,rfl⟩;refine BT<|Ag<|Zn [2,3] ?_;refine Zx ?_;have Z:=BS af (n':=(c.win++[(⟨p,q2,cap2,cs⟩:BP)]).length) (xs':=Du (c.win++[(⟨p,q2,cap2,cs⟩:BP)])) (by rw [BW];rfl) (by rw [Kq];rfl)
 have B:(c.win++[(⟨p,q2,cap2,cs⟩:BP)]).length=c.win.length+1:=by rw [BW];rfl
 refine CP (s1:=s2) (s2:=c.M) Wo Wo ?_;refine Zb [2,3] ?_;refine DL (e0:=[]) (H0:=[[(c.cp,.cells #[I4 p,.slice X (c.win.length+1) O,.pointer (some ⟨c.z.r,0,none⟩),.pointer (some ⟨c.ip,0,none⟩),.map (some c.mi),.map (some c.mkb),I4 c.next] 87 (0,0))],J,(s2++c.M)]) (fun e H=>∃(W:List BP) (wq:B6) (wc:Nat) (sW s0:List A9),(Jt c.win W ⟨p,q2,cap2,cs⟩/\Bd 2 50 (.slice wq W.length wc) W.length (Du W) sW)/\e=[]/\H=[[(c.cp,.cells #[I4 p,.slice wq W.length wc,.pointer (some ⟨c.z.r,0,none⟩),.pointer (some ⟨c.ip,0,none⟩),.map (some c.mi),.map (some c.mkb),I4 c.next] 87 (0,0))],sW,(s0++(s2++c.M))]) Wp ?hx_6 ?hy_6
 case hx_6=>
  refine A0<|Zl L7 Y ?_;refine Zp Y V<|Zh 1 FG V rfl PA Y<|Zl ZS Y ?_;refine Zv (AY GO Y)<|Zv (DK (n:=64) Y Y)<|A5<|Aq Y (fun h6=>?_) (fun h6=>?_);·
   have o8:EE (J++(s2++c.M)) (.slice X (c.win.length+1) O) (c.win++[(⟨p,q2,cap2,cs⟩:BP)]):=by
    rw [B]at Z;rw [<-B];refine KI (by rw [B];exact Z) A1 fun r hr=>?_;rcases Bm.1 hr with hr|hr
    · obtain ⟨i,hi⟩:=HE hr
      exact H8 (h.wp i r hi).2.1 s2
    · rw [C1.1 hr];exact Jp gy c.M
   have o9:EE (J++(s2++c.M)) (.slice (EY X 1 O 2) c.win.length (O -1)) ((c.win++[(⟨p,q2,cap2,cs⟩:BP)]).drop 1):=by
    rw [<-B]at o8;have h9:=Ns (a:=1) o8 A1
    rwa [B,R0]at h9
   refine CP (s1:=J) (s2:=(s2++c.M)) Wo Wo ?_;refine Az (n:=10) (0::0::2::6::14::30::62::127::255::511::[]) 576 AE AE V<|B9 0 V L7 Y ?_;refine B9 1 V L7 Y ?_;refine A2 2 V (Ap Y V)<|A2 3 V (AB (off:=1) FG V rfl PA Y)<|B9 4 V ZS Y ?_;refine A2 5 rfl (CE (l:=1) GO F1 Y Y A1)<|Zz (l:=[6])<|B5 [false,false,true] [(0,(_,_))] rfl rfl (Zw [_] Y call46 Y rfl (IK o9 (by rw [CD];omega))) ?_ Bw Ah;rintro _ _ ⟨_,⟨sR,l9,rfl⟩,rfl⟩;refine ⟨Zk (Aa),?_⟩;obtain ⟨gR,cR,rfl⟩:=l9.form;refine A2 7 V (Ap Y V)<|A2 8 V (AB (off:=1) FG V rfl PA Y)<|Zz (l:=[9])<|B5 [false] [] V rfl (Zs PA Y Y V (hi:=by(simp;done))) ?_ (fun _ _ h=>h.elim) Ah;rintro _ _ ⟨rfl,rfl⟩;refine BT<|Ag<|Zn [2,3] ?_;refine BN (e':=[]) (by exact ⟨(c.win++[(⟨p,q2,cap2,cs⟩:BP)]).drop 1,gR,cR,sR,J,⟨.inr ⟨V,by omega⟩,l9⟩,V,V⟩)
  refine AC<|Zn [2,3] ?_;refine BN (e':=[]) (by exact ⟨c.win++[(⟨p,q2,cap2,cs⟩:BP)],X,O,J,[],⟨.inl ⟨rfl,by omega⟩,by rw [B]at Z⊢;exact Z⟩,rfl,by rw [B]⟩)
 rintro _ _ ⟨W,wq,wc,sW,s0,⟨ic,vo⟩,rfl,rfl⟩;refine A0<|Ze (Al W4 #[_])<|AG fun bt=>A5<|A0<|Zv (Bh (vs:=[]) (us:=[_,_,_]) Y Y)<|A4 Y<|Zq<|Zq<|Az (n:=8) (0::1::3::7::0::31::63::0::[]) 32 AE AE V<|B9 0 V L7 Y ?_;refine A2 1 V (Ap Y V)<|A2 2 V (AB (off:=3) FG V rfl sizeOf82 Y)<|B9 3 V isAgg82 Y ?_;refine Fk 4 V Wh (AA (cs:=#[_,_]) HP F1 Y B1 (BK V)) ?_;refine A2 7 V (AP Y)<|Zz (l:=[5])<|B5 [false,false,false] [] V rfl (Zw [_,_] Y call49 Y V (gJ h.its.idx ve sO h.its.ist p (MC:=ME) hC A1 j5)) ?_ Bw Ah;rintro _ _ ⟨_,⟨zi,sz,lv2,ML2,pg,x9,HZ,gm,p8,rfl⟩,rfl⟩;refine ⟨Aa,?_⟩;obtain ⟨pk,ck,rfl⟩:=gm.form;simp only [B8];rw [B8]at gm;refine A2 6 V (AY DH Y)<|Ag<|Zx<|AQ<|BX<|Zb [68,2,3,6,7,66,67] ?_;refine BA (e0:=[(68,_)]) (fun m e H=>∃(k:Nat) (d:CZ) (tl:List Bk) (tv:A3) (st:List A9),m=zi.length -k/\(k<=zi.length/\HY c d cs p W (s0++(s2++c.M)) (zi.take k) tl/\Row 9 tv (tl.map Value.string) st)/\e=[(68,I4 (k:Int))]/\H=[[(c.cp,.cells d.BA1 87 (0,0))],d.sW,d.z.S,[(d.mb,.map d.esP d.ckP)],d.su,[(d.ip,.cells #[.map (some d.mq),d.lv] 163 (0,0))],[(d.mq,.map d.esQ d.ckQ)],d.ML,[(d.mi,.map d.esI d.ckI)],[(d.mkb,.map d.esK d.ckK)],d.SI,d.M,d.MR,[(bt,.cells #[tv] 45 (0,0))],st]) (by exact ⟨0,({c with pos:=p,wq:=wq,wc:=wc,win:=W,sW:=sW,lv:=lv2,ML:=ML2,M:=s0++(s2++c.M)}:CZ),[],.slice none 0 0,[],rfl,⟨C5 _,by rw [Kd];exact wL h.tookb ic vo hp hR (fun q hq=>GB _ (GB _ hq)) (H8 (Jp gy c.M) s0) p8,Gb _⟩,rfl,rfl⟩) Wp ?_;rintro _ _ _ ⟨k,d,tl,tv,st,rfl,⟨hk,g,hT⟩,rfl,rfl⟩;refine A0<|Zv (Au Y Y)<|A5<|Zq<|Aq Y (fun cu=>?_) (fun cu=>?_);·
  obtain ⟨i9,U⟩:∃i,zi[k]?=some i:=⟨_,B7 A1⟩;obtain ⟨y9,wz,ek,zl⟩:=(pg i9).1 (Dg U);obtain ⟨x,hx,rfl⟩:=C3.1 wz;replace ek:x.id=i9:=ek;subst ek;have l8:x.id∉zi.take k:=SC x9 U
  have cO:=g.next_it h.tookb hx l8;have l5:=g.okb.its.get cO
  have sw:EK x.id d.lmK=some (.string x.key):=Cy g.okb.its.km.keys ((g.okb.its.kmem _).2 ⟨x,cO,rfl⟩);have bn:(x.b,Obj.cells x.BA0 93 (0,0))∈d.SI:=g.okb.its.sub x cO
  have w9:tl.length<=500:=My (PN g.t2 fun a ha=>by
   obtain ⟨w,hw,rfl,_⟩:=(g.t1 a).1 ha;exact DS hw) (by rw [B8];exact h.its.len)
  rcases gm with⟨_,h0,_⟩|⟨gk,capk,curk,zk,hvk,rfl,hlek,hcmk,hcsk,htkk,hfrk⟩
  · simp at h0;subst h0;simp at cu
  injection hvk with hv1 hv2 hv3
  subst hv1 hv3;have qb:curk[k]?=some (I4 x.id):=by
   have h:=congrArg (fun l=>l[k]?) htkk;simp only [HJ,B8,Ax cu,E0,U]at h;simpa using h
  refine AC<|Zx<|Zq<|AQ<|A0<|BV (BU DH A6 Y Y (by first|omega|decide|(simp;done)|(simp;omega)))<|Zl AF Y (hv:=by exact qb) ?_;refine A4 Y<|A0<|Zl L7 Y ?_;refine Zp Y V<|Zh 5 FG V rfl sizeOf85 Y<|Zl isAgg85 Y ?_;refine Zm Y<|Zo Wh (Df (CY CM (D:=fun _=>True)) eS Hs g.okb.its.km (fun _ _=>trivial) (trivial) (by rw [sw];first|done|rfl) Y Y) ?_;refine A4 Y<|Zq<|Az (n:=13) (0::1::3::7::0::31::63::127::255::511::0::1024::4095::[]) 0 AE AE V<|B9 0 V L7 Y ?_;refine A2 1 V (Ap Y V)<|A2 2 V (AB (off:=4) FG V rfl PB Y)<|B9 3 V OK Y ?_;refine A2 4 rfl (AP Y)<|Fk 5 rfl Wh (Df (Dl H4 (D:=fun _=>True)) OS To g.okb.its.im (fun _ _=>trivial) (trivial) (by rw [l5];first|done|rfl) Y Y) ?_;refine A2 6 V (Ap Y V)<|A2 7 V (AB (off:=0) Hi V rfl HH Y)<|A2 8 V (Ar (off:=8) G4 V rfl A6 Y)<|Ce (D':=1023) 9 V rfl V (FR Wo (bn)) (BO AF Y As) ?_;refine A2 10 V (AB (off:=0) Ge V rfl A6 Y)<|B9 11 V AF Y ?_;refine A2 12 V (Dw Y Y)<|Ag<|Zn [2,3,6,7,10,66,67,68,90] ?_;refine Zx<|Aq Y (fun ax=>?_) (fun ax=>?_);·
   refine Zg<|Zm Y<|Zm Y<|Zl L7 Y ?_;refine Zp Y V<|Zh 4 FG V rfl PB Y<|Zl OK Y ?_;refine Zm Y<|Zo Wh (Df (Dl H4 (D:=fun _=>True)) OS To g.okb.its.im (fun _ _=>trivial) (trivial) (by rw [l5];first|done|rfl) Y Y) ?_;refine Zc [_,_] Y call47 Y V (jC g h hC A1 hx ax l8 hT A1 bt br bc) ?_;rintro _ _ ⟨_,⟨rfl,d2,yt,y5,gq,q9,rfl⟩,rfl⟩;refine Z0<|A8<|Zx<|Zg<|Ya (n:=1) Y Y<|Zm Y<|Z0<|Zn [68,2,3,6,7,66,67] ?_;refine Ab (e':=[(68,_)]) (by exact ⟨k+1,d2,tl++[x.key],yt,y5,rfl,⟨by omega,by rw [Bn U];exact gq,q9⟩,rfl,rfl⟩)
  refine AC<|A8<|Zx<|Zg<|Ya (n:=1) Y Y<|Zm Y<|Z0<|Zn [68,2,3,6,7,66,67] ?_;refine Ab (e':=[(68,_)]) (by exact ⟨k+1,d,tl,tv,st,rfl,⟨by omega,by rw [Bn U];exact wJ g h.tookb hx ax,hT⟩,rfl,rfl⟩)
 obtain rfl:k=zi.length:=by omega
 rw [GS]at g;have w9:tl.length<=500:=My (PN g.t2 fun a ha=>by
  obtain ⟨w,hw,rfl,_⟩:=(g.t1 a).1 ha;exact DS hw) (by rw [B8];exact h.its.len)
 refine Ay<|Zt<|Zt<|AR<|Zx<|Zq<|Zq ?_;rw [<-g.cp];refine Zg<|Zl L7 Y ?_;refine Zc [_] Y call50 Y V (di d) ?_;rintro _ _ ⟨_,⟨bs,rfl,rfl⟩,rfl⟩;refine A5<|AQ<|Zb [2,6,102] ?_;refine JB (H0:=_) (R:=_) (I:=(fun(pre:List Bk) H=>∃d2:CZ,JU d d2 pre/\H=[[(d.cp,.cells d2.BA1 87 (0,0))],d2.sW,d2.z.S,[(d2.mb,.map d2.esP d2.ckP)],d2.su,[(d2.ip,.cells #[.map (some d2.mq),d2.lv] 163 (0,0))],[(d2.mq,.map d2.esQ d2.ckQ)],d2.ML,[(d2.mi,.map d2.esI d2.ckI)],[(d2.mkb,.map d2.esK d2.ckK)],d2.SI,d2.M,d2.MR,[(bc,.cells #[.pointer (some ⟨d.cp,0,none⟩)] 27 (0,0))]])) (E:=fun x e Hn=>e=[(11,.string x),(103,.string x)]/\Hn=[]) rfl Y call106 (dw g.okb bs) (fun pre H1 c9 d9 h9=>by obtain ⟨d2,G,rfl⟩:=h9;exact ⟨d2,G.okb,G.like.cp,G.mi,G.like.pos,G.its,by rw [G.like.cp];simp,by simp,fun q hq=>by simp [hq]⟩) Y rfl Wp (⟨d,SG g.okb,rfl⟩) ?ha_16 ?hbd_16 ?hk_16
 case ha_16=>
  intro _ x _ _;refine Zg<|AN Y<|MG (e:=[(11,_),(103,_)]) (Hn:=[]) ?_;exact ⟨V,V⟩
 case hbd_16=>
  intro l pre x u e9 zm H1 R1 r9 wo hI pq;obtain ⟨rfl,rfl⟩:=pq;obtain ⟨d2,G,rfl⟩:=hI;obtain ⟨x2,wh,rfl⟩:=dm G g.okb wo;rw [<-G.like.cp];refine AQ<|Zg<|Zl L7 Y ?_;refine Zm Y<|Zc [_,_] Y call13 Y V (UJ G.okb wh) ?_;rintro _ _ ⟨_,⟨rfl,d3,qj,kv,ql,qo,_,qw,qx,qz,rfl⟩,rfl⟩;rw [kv.cp];refine Z0<|A8<|F7 V (by exact ⟨d3,SF G qj kv ql qo qw qx qz,V⟩)
 intro D1 ys H2 sj pz;obtain ⟨d2,G,rfl⟩:=pz;rw [<-G.like.cp];refine Zn [6] ?_;refine A8<|Zx<|A0<|Zl I3 Y ?_;refine Zc [_] Y call51 Y V (SL hT A1) ?_;rintro _ _ ⟨_,⟨zs,s3,rfl,sJ,vz,vw,rfl⟩,rfl⟩;refine A5<|A0<|Zl I3 Y ?_;refine Za Y<|A4 Y<|AJ<|GR V (rG results14 Y Y) Wo (by exact ⟨d2,q2,cap2,zs,tv,s3,s0++s2,V,wK h hR hp ic g (fun q hq=>GB _ (GB _ hq)) pg G sj sJ vz,G.M.1.trans (g.M.trans (D3 _ _ _).symm),vw,V⟩)
theorem uO:GZ [] 0 #[] 0 [] (.pointer none) [] #[] 0 [] #[] 0 [] []:=⟨ni,.inl ⟨rfl,rfl⟩,EW _,fun p=>by simp,EW _,fun p=>by simp,nf,fun x hx=>by simp at hx,by decide,by decide,fun x hx=>by simp at hx,fun x hx=>by simp at hx⟩
theorem vO{d:CZ}(h:d.okb)(hi:d.its=[])(pos:Int)(m:0<=pos/\pos<=10000):({d with pos:=pos,wq:=none,wc:=0,win:=[],sW:=[]}:CZ).ok:=
 ⟨⟨m,Bf 2 _,C5 _,fun i r B=>by simp at B,h.pool,h.pk,h.its,h.tns⟩,fun x hx=>by have g:x∈d.its:=hx;rw [hi]at g;simp at g⟩
theorem CZ.okb.noPL(h:c.okb)(hi:c.its=[]):c.PL=[]:=by
 cases hP:c.PL with
 |nil=>rfl
 |cons e l=>
  have g:=(h.pk e.key).1 (by rw [hP];simp);rw [hi]at g;simp at g
theorem om{v:A3}{sh:List Int}{J:List A9}(U:Row 3 v (sh.map (Value.int .i64)) J)(pos cap:Int)(O:0<=pos/\pos<=10000)(hc:1<=cap/\cap<=1000000)(W:1<=sh.length/\sh.length<=8)(h0:∀x∈sh,0<=x)(I:sh.sum<=cap):BZ prog 6 #[I4 pos,I4 cap,v] [J] (fun r H'=>∃c:CZ,r= .tuple #[.pointer (some ⟨c.cp,0,none⟩),I4 0]/\c.ok/\(c.its=[]/\c.PL=[]/\c.win=[])/\c.pos=pos/\c.next=0/\c.ns=sh.length/\c.z.cap=cap/\H'=[[(c.cp,.cells c.BA1 87 (0,0))],c.sW,c.z.S,[(c.mb,.map c.esP c.ckP)],c.su,[(c.ip,.cells #[.map (some c.mq),c.lv] 163 (0,0))],[(c.mq,.map c.esQ c.ckQ)],c.ML,[(c.mi,.map c.esI c.ckI)],[(c.mkb,.map c.esK c.ckK)],c.SI,c.M,c.MR,J]):=by
 refine Se func6 ntmps6 [0,1,2] ?_;intro u R;refine A0<|Za Y<|A4 Y<|Zq<|A0<|Zm Y<|Xr [_] Y call25 Y V (JO pos) ?_;rw [DE O];refine Zv (Br Y)<|A5<|AU Y (fun m=>by cases m)<|fun m=>AC<|Zx<|A0<|Zm Y<|Zm Y<|Zc [_,_] Y call26 Y V (mo U cap hc W h0 I) ?_;rintro _ _ ⟨_,⟨z,mb,su,rfl,G,g,rfl⟩,rfl⟩;refine Zm Y<|Zd Y V<|Zd Y V<|Za Y<|AN Y<|Zn [0,8,9] ?_;refine Zx<|Zq<|A0<|Zm Y<|Zv (Dn (n:=0) Y Y)<|A5<|Aq Y (fun B=>?_) (fun B=>?_);·
  exfalso;exact B rfl
 refine AC<|Zx<|Zq<|BX<|BX<|BX<|BX<|BX<|Zg<|Zm Y<|Zm Y<|Zc [] Y call27 Y V (kX) ?_;rintro _ _ ⟨_,⟨ip,mq,rfl,rfl⟩,rfl⟩;refine Ze (DX)<|AG fun mi=>Ze (DX)<|AG fun mkb=>Zv (BL (vs:=[(0,_),(2,_),(3,_),(4,_),(5,_)]) (cs:=#[_,_,_,_,_,_,_]) Y (AZ (pl:=#[(0,1),(1,1),(2,1),(3,1),(4,1),(5,1),(6,1)]) zeroValue87 FG (fun _=>by kernel_rfl) V))<|Ze (Bx #[_,_,_,_,_,_,_])<|AG fun cp=>Za Y<|A4 Y<|AJ<|Cv V results6 Y Y (by refine ⟨({cp:=cp,pos:=pos,wq:=none,wc:=0,win:=[],sW:=[],z:=z,ns:=sh.length,PL:=[],mb:=mb,esP:=#[],ckP:=0,lmP:=[],su:=su,ip:=ip,mq:=mq,mi:=mi,mkb:=mkb,next:=0,its:=[],esQ:=#[],ckQ:=0,lmQ:=[],lv:= .pointer none,ML:=[],esI:=#[],ckI:=0,lmI:=[],esK:=#[],ckK:=0,lmK:=[],SI:=[],M:=[],MR:=[]}:CZ),V,⟨⟨O,Bf 2 _,by simp,fun i r X=>by simp at X,g,fun k=>by simp,uO,fun x hx=>by simp at hx⟩,fun x hx=>by simp at hx⟩,⟨V,V,V⟩,V,V,V,G,V⟩)
theorem vT(pos:Int)(cap:Int)(v:A3)(m:¬(0<=pos/\pos<=10000)):BB prog 6 #[I4 pos,I4 cap,v] [] (.tuple #[.pointer none,I4 180]):=by
 refine Se func6 ntmps6 [0,1,2] ?_;intro u R;refine A0<|Za Y<|A4 Y<|Zq<|A0<|Zm Y<|Xr [_] Y call25 Y V (JO pos) ?_;rw [Cd m];refine Zv (Br Y)<|A5<|AU Y (fun g=>?_) (fun g=>?_);·
  refine A0<|Za Y<|A4 Y<|AJ<|Zt<|Cv V results6 Y Y (by exact ⟨V,V⟩)
 cases g
theorem eY(h:c.ok)(pos:Int)(hp:0<=pos/\pos<=10000):BZ prog 19 #[.pointer (some ⟨c.cp,0,none⟩),I4 pos] [[(c.cp,.cells c.BA1 87 (0,0))],c.sW,c.z.S,[(c.mb,.map c.esP c.ckP)],c.su,[(c.ip,.cells #[.map (some c.mq),c.lv] 163 (0,0))],[(c.mq,.map c.esQ c.ckQ)],c.ML,[(c.mi,.map c.esI c.ckI)],[(c.mkb,.map c.esK c.ckK)],c.SI,c.M,c.MR] (fun v H'=>v=undef/\∃d:CZ,d.ok/\d.cp=c.cp/\(d.its=[]/\d.PL=[]/\d.win=[])/\d.pos=pos/\d.next=c.next/\d.ns=c.ns/\d.z.cap=c.z.cap/\H'=[[(d.cp,.cells d.BA1 87 (0,0))],d.sW,d.z.S,[(d.mb,.map d.esP d.ckP)],d.su,[(d.ip,.cells #[.map (some d.mq),d.lv] 163 (0,0))],[(d.mq,.map d.esQ d.ckQ)],d.ML,[(d.mi,.map d.esI d.ckI)],[(d.mkb,.map d.esK d.ckK)],d.SI,d.M,d.MR]):=by
 refine Se func19 ntmps19 [0,1] ?_;intro u R;refine Zq<|A0<|Zm Y<|Zv (Be Lz Y Y)<|Zm Y<|Ae (t:=8) Y V (fun g1=>by cases g1)<|fun g1=>Zf Y Y<|Xr [_] Y call25 Y V (JO pos) ?_;rw [DE hp];refine Yg (Br Y)<|Zv (AL Y Y)<|A5<|AU Y (fun O=>by cases O)<|fun O=>AC<|Zx<|Zq<|A0<|Zm Y<|Zc [_] Y call15 Y V (OG h.tookb) ?_;rintro _ _ ⟨_,⟨zs,sk,B,gy,J,rfl⟩,rfl⟩;have gm:zs.Nodup:=B.nodup_iff.2 h.its.keys
 have ek:=B.length_eq;rw [B8]at ek;have gq:=h.its.len
 obtain ⟨pk,ck,rfl⟩:=J.form;simp only [B8];rw [B8]at J;refine Zv (AY DA Y)<|Zm Y<|A5<|AQ<|Zb [16,0,1,14,15] ?_;refine BA (e0:=[(16,_)]) (fun m e H=>∃(i:Nat) (d:CZ),m=zs.length -i/\(i<=zs.length/\JU c d (zs.take i))/\e=[(16,I4 (i:Int))]/\H=[[(c.cp,.cells d.BA1 87 (0,0))],d.sW,d.z.S,[(d.mb,.map d.esP d.ckP)],d.su,[(d.ip,.cells #[.map (some d.mq),d.lv] 163 (0,0))],[(d.mq,.map d.esQ d.ckQ)],d.ML,[(d.mi,.map d.esI d.ckI)],[(d.mkb,.map d.esK d.ckK)],d.SI,d.M,d.MR]) (by exact ⟨0,c,rfl,⟨C5 _,by rw [Kd];exact SG h.tookb⟩,rfl,rfl⟩) Wp ?_;rintro _ _ _ ⟨i,d,rfl,⟨hi,g⟩,rfl,rfl⟩;refine A0<|Zv (Au Y Y)<|A5<|Zq<|Aq Y (fun I=>?_) (fun I=>?_);·
  obtain ⟨k,W⟩:∃k,zs[i]?=some k:=⟨_,B7 A1⟩;obtain ⟨x,hx,rfl⟩:=C3.1 (B.mem_iff.1 (Dg W));have d9:x∈d.its:=(g.its x).2 ⟨hx,SC gm W⟩
  rcases J with⟨_,h0,_⟩|⟨gk,capk,curk,zk,hvk,rfl,hlek,hcmk,hcsk,htkk,hfrk⟩
  · simp at h0;subst h0;simp at I
  injection hvk with hv1 hv2 hv3
  subst hv1 hv3;have X:curk[i]?=some (.string x.key):=by
   have h:=congrArg (fun l=>l[i]?) htkk;simp only [HJ,B8,Ax I,E0,W]at h;simpa using h
  refine AC<|Zx<|Zq<|AQ<|A0<|BV (BU DA Fo Y Y e5)<|Zl HK Y (hv:=by exact X)<|AN Y<|Zx ?_;rw [<-g.like.cp];refine Zg<|Zm Y<|Zm Y<|Zc [_,_] Y call13 Y V (UJ g.okb d9) ?_;rintro _ _ ⟨_,⟨rfl,d3,Z,U,af,ax,_,bn,cu,cO,rfl⟩,rfl⟩;rw [U.cp,g.like.cp];refine Z0<|A8<|Zx<|Zg<|Ya (n:=1) Y Y<|Zm Y<|Z0<|Zn [16,0,1,14,15] ?_;refine Ab (e':=[(16,_)]) (by exact ⟨i+1,d3,rfl,⟨by omega,by rw [Bn W];exact SF g Z U af ax bn cu cO⟩,rfl,rfl⟩)
 obtain rfl:i=zs.length:=by omega
 rw [GS]at g;have G:d.its=[]:=s7.2 fun y hy=>by
  obtain ⟨h1,h2⟩:=(g.its y).1 hy;exact h2 (B.mem_iff.2 (DS h1))
 refine Ay<|Zt<|Zt<|AR<|Zx ?_;rw [<-g.like.cp];refine BX<|Zg<|Zm Y<|Zm Y<|Zm Y<|Zp Y V<|Zh 0 FG V rfl A6 Y<|Xe (Zs A6 Y Y V (hi:=by(simp;done)))<|Zp Y V<|Zh 1 FG V rfl PA Y<|Xe (Zs PA Y Y V (hi:=by(simp;done)))<|Z0<|Cw V results19 (by exact ⟨V,({d with pos:=pos,wq:=none,wc:=0,win:=[],sW:=[]}:CZ),vO g.okb G pos hp,V,⟨G,g.okb.noPL G,V⟩,V,g.next,g.like.ns,g.like.cap,V⟩)
theorem bZ(h:c.okb)(G:Cf ME (.slice qa cs.length cap) cs)(O:EM p cs)(hp:p≠c.pos+1):BB prog 14 #[.pointer (some ⟨c.cp,0,none⟩),.agg #[I4 p,.slice qa cs.length cap]] [[(c.cp,.cells c.BA1 87 (0,0))],ME] (.tuple #[.slice none 0 0,I4 180]):=by
 have W:=mL;obtain ⟨p9,B,I,X,U⟩:=id G;injection I with e91 e92 e93
 subst e91 e93;refine DT func14 V ntmps14 V ?_;intro u R;refine Zb [0,1] ?_;refine A0<|Ze (Bx #[_])<|AG fun Z=>Ze (Bx #[I4 p,.slice qa cs.length cap])<|AG fun b2=>Za Y<|A4 Y<|Zq<|AQ<|A0<|Zl L7 Y<|Zv (Be Lz Y Y)<|A4 Y<|AU Y (fun g=>by cases g)<|fun g=>Zq<|Az (n:=14) (0::1::3::7::15::31::15::79::207::463::975::2047::4095::8191::[]) 2 AE AE V<|Fk 0 V Wh (AA (cs:=#[_,_]) HP F1 Y B1 (BK V))<|Yw 1 3 V (Zu [_] Y call44 Y V (QA p qa cap cs ME G)) ?_;rintro _ _ ⟨rfl,rfl⟩;rw [DE O];refine A2 2 V (Br Y)<|A2 3 V (AP Y)<|Ch (t:=19) Y (fun m=>?_) (fun m=>?_);·
  rw [m];cases m
 rw [m];refine B3 4 V (AB (off:=0) Ge V rfl A6 Y)<|DQ 5 V Wh (BO AF Y As)<|DQ 6 V Wh (BO L7 Y As)<|B3 7 V (Ap Y V)<|B3 8 V (AB (off:=0) FG V rfl A6 Y)<|DQ 9 V Wh (BO AF Y As)<|B3 10 V (Hg Y Y (IntWalk.i64_in _ (by have:=h.pos;omega)))<|B3 11 V (LZ Y Y)<|A2 12 V (AL Y Y)<|A2 13 V (Aw Y)<|Ag<|Zn [2,3,15] ?_;refine Zx<|Aq Y (fun J=>?_) (fun J=>?_);·
  refine A0<|Za Y<|A4 Y<|AJ<|Ac<|Zt<|PM V (rG results14 Y Y) (by exact ⟨V,V⟩)
 exfalso;omega
variable{x:ItM}
theorem oZ(h:c.ok)(hx:x∈c.its):BZ prog 12 #[.pointer (some ⟨c.cp,0,none⟩),.string x.key] [[(c.cp,.cells #[I4 c.pos,.slice c.wq c.win.length c.wc,.pointer (some ⟨c.z.r,0,none⟩),.pointer (some ⟨c.ip,0,none⟩),.map (some c.mi),.map (some c.mkb),I4 c.next] 87 (0,0))],c.sW,c.z.S,[(c.mb,.map c.esP c.ckP)],c.su,[(c.ip,.cells #[.map (some c.mq),c.lv] 163 (0,0))],[(c.mq,.map c.esQ c.ckQ)],c.ML,[(c.mi,.map c.esI c.ckI)],[(c.mkb,.map c.esK c.ckK)],c.SI,c.M,c.MR] (fun v H'=>v= .bool true/\∃d:CZ,d.ok/\c.like d/\d.next=c.next/\(d.M=c.M/\d.MR=c.MR)/\d.its=c.its/\(∀e∈d.PL,e∈c.PL)/\H'=[[(d.cp,.cells #[I4 d.pos,.slice d.wq d.win.length d.wc,.pointer (some ⟨d.z.r,0,none⟩),.pointer (some ⟨d.ip,0,none⟩),.map (some d.mi),.map (some d.mkb),I4 d.next] 87 (0,0))],d.sW,d.z.S,[(d.mb,.map d.esP d.ckP)],d.su,[(d.ip,.cells #[.map (some d.mq),d.lv] 163 (0,0))],[(d.mq,.map d.esQ d.ckQ)],d.ML,[(d.mi,.map d.esI d.ckI)],[(d.mkb,.map d.esK d.ckK)],d.SI,d.M,d.MR]):=by
 obtain ⟨e,Z,J⟩:=C3.1 ((h.pk x.key).2 (DS hx));obtain ⟨L1,L2,m⟩:=Q6 Z;have g:=h.pool
 rw [m]at g;rw [<-J];refine Se func12 ntmps12 [0,1] ?_;intro u R;refine Zq<|FB (s:=c.z.S) Wo (fun W=>?_);rw [Bg.keys]at W;refine Zg<|A4 Y<|A0<|Zm Y<|Zv (IL Lz Y Y)<|Zm Y<|Ae (t:=7) Y V (fun U=>?_) (fun U=>?_);·
  refine Zf Y Y<|Yg (Ap Y V)<|Yf 2 FG V rfl dy Y<|Yl ID Y<|Zf Y Y<|Zc [_,_] Y call42 Y V (qL g W) ?_;rintro _ _ ⟨_,⟨rfl,z2,es2,ck2,lm2,su2,O,I,X,B,rfl⟩,rfl⟩;refine Zv (AV Y Y)<|A4 Y<|AJ<|AO V results12 Y (by
   have G:∀y,y∈L1++L2++[e]↔y∈c.PL:=fun y=>by rw [m];simp only [Bm,DB,C1,RR,PF];exact ⟨fun h=>h.elim (fun h=>h.elim .inl fun h=> .inr (.inr h)) fun h=> .inr (.inl h),fun h=>h.elim (fun h=> .inl (.inl h)) fun h=>h.elim .inr fun h=> .inl (.inr h)⟩
   refine ⟨V,({c with z:=z2,PL:=L1++L2++[e],esP:=es2,ckP:=ck2,lmP:=lm2,su:=su2}:CZ),⟨⟨h.pos,h.win,h.wl,h.wp,B,fun k=>?_,h.its,h.tns⟩,h.all⟩,⟨V,V,V,V,I⟩,V,⟨V,V⟩,V,fun y hy=>(G y).1 hy,?_⟩;· rw [<-h.pk k];simp only [C3,G]
   · simp only [O];rfl)
 cases U
variable{K:Bk}
theorem oW(h:c.okb)(I:∀y∈c.its,y.key≠K):BB prog 12 #[.pointer (some ⟨c.cp,0,none⟩),.string K] [[(c.cp,.cells c.BA1 87 (0,0))],c.z.S,[(c.mb,.map c.esP c.ckP)],c.su] (.bool false):=by
 have g:∀e∈c.PL,e.key≠K:=fun e J O=>by
  obtain ⟨y,hy,m⟩:=C3.1 ((h.pk e.key).1 (DS J));exact I y hy (m.trans O)
 refine Se func12 ntmps12 [0,1] ?_;intro u R;refine Zq<|FB (s:=c.z.S) Wo (fun G=>?_);rw [Bg.keys]at G;refine Zg<|A4 Y<|A0<|Zm Y<|Zv (IL Lz Y Y)<|Zm Y<|Ae (t:=7) Y V (fun B=>?_) (fun B=>?_);·
  refine Zf Y Y<|Yg (Ap Y V)<|Yf 2 FG V rfl dy Y<|Yl ID Y<|Zf Y Y<|Xr [_,_] Y call42 Y V (qK h.pool G g)<|Zv (AV Y Y)<|A4 Y<|AJ<|AO V results12 Y (by exact ⟨V,V⟩)
 cases B
theorem Dp{P:Program}{f:FuncId}{args:AH}{H H1:Hp}{Q m:A3->Hp->Prop}(h:BZ P f args H Q)(R:List A9)(O:H1.flatten.Perm (H.flatten++R))(U:∀v H',Q v H'->∃g,m v g/\g.flatten.Perm (H'.flatten++R)):BZ P f args H1 m:=fun u B w W=>by
 have G:Sat u (H++([R]++B)) w:=W.perm (by
  simp only [HC,CA,Fi,DG];rw [<-D3];exact O.append_right _)
 refine (h u ([R]++B) w G).mono ?_;rintro e X (⟨v,H',rfl,h2,h3⟩|⟨_,_,_,h,_⟩)
 · obtain ⟨g,I,J⟩:=U v H' h2
   refine .inl ⟨v,g,V,I,h3.perm ?_⟩;simp only [HC,CA,Fi,DG];rw [<-D3];exact J.symm.append_right _
 · exact h.elim
theorem Gg{P:Program}{f:FuncId}{args:AH}{H H1:Hp}{r:A3}(h:BB P f args H r)(R:List A9)(g:H1.flatten.Perm (H.flatten++R)):BB P f args H1 r:=Dp h R g (by
 rintro v H' ⟨rfl,rfl⟩;exact ⟨_,⟨V,V⟩,g⟩)
def CZ.mem(c:CZ):List A9:=([(c.cp,.cells c.BA1 87 (0,0))]:List A9)++((c.sW:List A9)++((c.z.S:List A9)++(([(c.mb,.map c.esP c.ckP)]:List A9)++((c.su:List A9)++(([(c.ip,.cells #[.map (some c.mq),c.lv] 163 (0,0))]:List A9)++(([(c.mq,.map c.esQ c.ckQ)]:List A9)++((c.ML:List A9)++(([(c.mi,.map c.esI c.ckI)]:List A9)++(([(c.mkb,.map c.esK c.ckK)]:List A9)++((c.SI:List A9)++((c.M:List A9)++((c.MR:List A9)))))))))))))
theorem XK(h:c.okb){B:Int}(J:∀e∈c.PL,e.sz<=B):c.z.cap -(c.its.length:Int)*B<=c.z.fr:=by
 have I:∀L:List Bp,(∀e∈L,e.sz<=B)->Jv L<=(L.length:Int)*B:=fun L=>by
  induction L with
  |nil=>intro _;simp [Jv]
  |cons e l ih=>
   intro G;have h2:=ih fun x hx=>G x (FA _ hx)
   have g:=G e (EV ..);have m:Jv (e::l)=e.sz+Jv l:=by unfold Jv;rw [Ek,kc]
   rw [m,Dd];push_cast;rw [Int.add_mul];omega
 have h2:(c.PL.map (·.key)).Perm (c.its.map ItM.key):=(S7 h.pool.keys h.its.keys).2 h.pk;have g:=h2.length_eq
 rw [B8,B8]at g;have m:=I c.PL J
 rw [g]at m;have O:=h.pool.free
 omega
def ri(c d:CZ)(q:QM)(tn base:Int)(L:List RP)(R:CB×Int×Bool)(b:Bool):Prop:=
 (b=false/\d=c/\¬((c.pos -base).toNat<=c.win.length/\R.2.2=true))\/
 (b=true/\((c.pos -base).toNat<=c.win.length/\R.2.2=true)/\(∀e∈d.PL,e∈c.PL\/e.sz=1+(R.1.rows.length:Int))/\
   ((d=c/\∃x∈c.its,x.key=str (CJ q)/\base<=x.base)\/
    ((∀x∈c.its,x.key=str (CJ q)->x.base<base)/\∃y:ItM,d.its=(c.its.filter fun x=>x.key≠str (CJ q))++[y]/\y.q=q/\y.base=base/\y.L=L/\y.res=R.1/\y.since=R.2.1/\((y.tn=tn/\∀x∈c.its,x.key≠str (CJ q))\/∃x∈c.its,x.key=str (CJ q)/\y.tn=x.tn))))
theorem uK(h:c.okb)(g:∀y∈c.its,y.key≠K):BB prog 13 #[.pointer (some ⟨c.cp,0,none⟩),.string K] [c.mem] (.bool false):=Gg (yn h g) ((c.sW:List A9)++([(c.ip,.cells #[.map (some c.mq),c.lv] 163 (0,0))]:List A9)++([(c.mq,.map c.esQ c.ckQ)]:List A9)++(c.ML:List A9)++([(c.mkb,.map c.esK c.ckK)]:List A9)++(c.SI:List A9)++(c.M:List A9)++(c.MR:List A9)++[]) (Bo fun f m=>by simp only [CA,Fi,DG,CZ.mem,CZ.BA1,m]<;>omega)
theorem z7(c:CZ):BB prog 20 #[.pointer (some ⟨c.cp,0,none⟩)] [c.mem] (I4 c.pos):=Gg (og c) ((c.sW:List A9)++(c.z.S:List A9)++([(c.mb,.map c.esP c.ckP)]:List A9)++(c.su:List A9)++([(c.ip,.cells #[.map (some c.mq),c.lv] 163 (0,0))]:List A9)++([(c.mq,.map c.esQ c.ckQ)]:List A9)++(c.ML:List A9)++([(c.mi,.map c.esI c.ckI)]:List A9)++([(c.mkb,.map c.esK c.ckK)]:List A9)++(c.SI:List A9)++(c.M:List A9)++(c.MR:List A9)++[]) (Bo fun f g=>by simp only [CA,Fi,DG,CZ.mem,CZ.BA1,g]<;>omega)
variable{k:Nat}
theorem wk(h:c.okb)(m:k<c.ns):BB prog 21 #[.pointer (some ⟨c.cp,0,none⟩),I4 (k:Int)] [c.mem] (I4 (Eu c.PL (k:Int))):=Gg (iT h m) ((c.sW:List A9)++([(c.ip,.cells #[.map (some c.mq),c.lv] 163 (0,0))]:List A9)++([(c.mq,.map c.esQ c.ckQ)]:List A9)++(c.ML:List A9)++([(c.mi,.map c.esI c.ckI)]:List A9)++([(c.mkb,.map c.esK c.ckK)]:List A9)++(c.SI:List A9)++(c.M:List A9)++(c.MR:List A9)++[]) (Bo fun f g=>by simp only [CA,Fi,DG,CZ.mem,CZ.BA1,g]<;>omega)
theorem yH(h:c.ok)(g:∀y∈c.its,y.key≠K):BB prog 16 #[.pointer (some ⟨c.cp,0,none⟩),.string K] [c.mem] (.tuple #[.agg #[I4 0,I4 0,I4 0,I4 0,I4 0,I4 0,I4 0,.slice none 0 0,I4 0,.bool false,I4 0,I4 0,I4 0,.slice none 0 0,.slice none 0 0],.bool false]):=Gg (ua h g) ((c.sW:List A9)++(c.z.S:List A9)++([(c.mb,.map c.esP c.ckP)]:List A9)++(c.su:List A9)++([(c.ip,.cells #[.map (some c.mq),c.lv] 163 (0,0))]:List A9)++([(c.mq,.map c.esQ c.ckQ)]:List A9)++(c.ML:List A9)++([(c.mkb,.map c.esK c.ckK)]:List A9)++(c.SI:List A9)++(c.M:List A9)++(c.MR:List A9)++[]) (Bo fun f m=>by simp only [CA,Fi,DG,CZ.mem,CZ.BA1,m]<;>omega)
theorem nQ(h:c.ok)(hx:x∈c.its)(g:c.pos<x.base):BB prog 16 #[.pointer (some ⟨c.cp,0,none⟩),.string x.key] [c.mem] (.tuple #[.agg #[I4 0,I4 0,I4 0,I4 0,I4 0,I4 0,I4 0,.slice none 0 0,I4 0,.bool false,I4 0,I4 0,I4 0,.slice none 0 0,.slice none 0 0],.bool false]):=Gg (ui h hx g) ((c.sW:List A9)++(c.z.S:List A9)++([(c.mb,.map c.esP c.ckP)]:List A9)++(c.su:List A9)++([(c.ip,.cells #[.map (some c.mq),c.lv] 163 (0,0))]:List A9)++([(c.mq,.map c.esQ c.ckQ)]:List A9)++(c.ML:List A9)++([(c.mkb,.map c.esK c.ckK)]:List A9)++(c.MR:List A9)++[]) (Bo fun f m=>by simp only [CA,Fi,DG,CZ.mem,CZ.BA1,m]<;>omega)
theorem nO(h:c.okb)(g:∀y∈c.its,y.key≠K):BB prog 12 #[.pointer (some ⟨c.cp,0,none⟩),.string K] [c.mem] (.bool false):=Gg (oW h g) ((c.sW:List A9)++([(c.ip,.cells #[.map (some c.mq),c.lv] 163 (0,0))]:List A9)++([(c.mq,.map c.esQ c.ckQ)]:List A9)++(c.ML:List A9)++([(c.mi,.map c.esI c.ckI)]:List A9)++([(c.mkb,.map c.esK c.ckK)]:List A9)++(c.SI:List A9)++(c.M:List A9)++(c.MR:List A9)++[]) (Bo fun f m=>by simp only [CA,Fi,DG,CZ.mem,CZ.BA1,m]<;>omega)
theorem PU(h:c.ok)(hx:x∈c.its)(I:x.base<=c.pos):BZ prog 16 #[.pointer (some ⟨c.cp,0,none⟩),.string x.key] [c.mem] (fun r H'=>∃(z:Ri) (l:List BP) (s:List A9),z.a=⟨x.q,x.res,x.since,c.pos,x.base,x.L,l⟩/\l.map BP.pc=(DC c.pos x.base c.win).map BP.pc/\z.ok s/\r= .tuple #[.agg z.A99,.bool true]/\H'=[c.mem,s]):=Dp (ub h hx I) ((c.z.S:List A9)++([(c.mb,.map c.esP c.ckP)]:List A9)++(c.su:List A9)++([(c.ip,.cells #[.map (some c.mq),c.lv] 163 (0,0))]:List A9)++([(c.mq,.map c.esQ c.ckQ)]:List A9)++(c.ML:List A9)++([(c.mkb,.map c.esK c.ckK)]:List A9)++(c.MR:List A9)++[]) (Bo fun f g=>by simp only [CA,Fi,DG,CZ.mem,CZ.BA1,g]<;>omega) (by
 rintro r H' ⟨z,l,s,m,h2,B,G,rfl⟩;exact ⟨_,⟨z,l,s,m,h2,B,G,V⟩,Bo fun f g=>by simp only [CA,Fi,DG,CZ.mem,CZ.BA1,g]<;>omega⟩)
theorem zY(h:c.okb):BZ prog 15 #[.pointer (some ⟨c.cp,0,none⟩)] [c.mem] (fun r H'=>∃(zs:List Bk) (s:List A9),zs.Perm (c.its.map ItM.key)/\(zs.Pairwise fun x y=>x.data.toList<=y.data.toList)/\Row 9 r (zs.map Value.string) s/\H'=[c.mem,s]):=Dp (OG h) ((c.sW:List A9)++(c.z.S:List A9)++([(c.mb,.map c.esP c.ckP)]:List A9)++(c.su:List A9)++([(c.ip,.cells #[.map (some c.mq),c.lv] 163 (0,0))]:List A9)++([(c.mq,.map c.esQ c.ckQ)]:List A9)++(c.ML:List A9)++([(c.mkb,.map c.esK c.ckK)]:List A9)++(c.SI:List A9)++(c.M:List A9)++(c.MR:List A9)++[]) (Bo fun f g=>by simp only [CA,Fi,DG,CZ.mem,CZ.BA1,g]<;>omega) (by
 rintro r H' ⟨zs,s,m,h2,B,rfl⟩;exact ⟨_,⟨zs,s,m,h2,B,V⟩,Bo fun f g=>by simp only [CA,Fi,DG,CZ.mem,CZ.BA1,g]<;>omega⟩)
theorem wt(h:c.ok)(hx:x∈c.its):BZ prog 13 #[.pointer (some ⟨c.cp,0,none⟩),.string x.key] [c.mem] (fun r H'=>r= .bool true/\∃d:CZ,d.ok/\c.like d/\d.next=c.next/\(d.M=c.M/\d.MR=c.MR)/\d.its=(c.its.filter fun y=>y.key≠x.key)/\(∀e∈d.PL,e∈c.PL)/\H'=[d.mem]):=Dp (yo h hx) [] (Bo fun f g=>by simp only [CA,Fi,DG,CZ.mem,CZ.BA1,g]<;>omega) (by
 rintro r H' ⟨m,d,h2,B,G,I,J,O,rfl⟩;exact ⟨_,⟨m,d,h2,B,G,I,J,O,V⟩,Bo fun f g=>by simp only [CA,Fi,DG,CZ.mem,CZ.BA1,g]<;>omega⟩)
theorem tr(h:c.ok)(hx:x∈c.its):BZ prog 12 #[.pointer (some ⟨c.cp,0,none⟩),.string x.key] [c.mem] (fun r H'=>r= .bool true/\∃d:CZ,d.ok/\c.like d/\d.next=c.next/\(d.M=c.M/\d.MR=c.MR)/\d.its=c.its/\(∀e∈d.PL,e∈c.PL)/\H'=[d.mem]):=Dp (oZ h hx) [] (Bo fun f g=>by simp only [CA,Fi,DG,CZ.mem,CZ.BA1,g]<;>omega) (by
 rintro r H' ⟨m,d,h2,B,G,I,J,O,rfl⟩;exact ⟨_,⟨m,d,h2,B,G,I,J,O,V⟩,Bo fun f g=>by simp only [CA,Fi,DG,CZ.mem,CZ.BA1,g]<;>omega⟩)
theorem ts(h:c.ok)(pos:Int)(W:0<=pos/\pos<=10000):BZ prog 19 #[.pointer (some ⟨c.cp,0,none⟩),I4 pos] [c.mem] (fun r H'=>r=undef/\∃d:CZ,d.ok/\d.cp=c.cp/\(d.its=[]/\d.PL=[]/\d.win=[])/\d.pos=pos/\d.next=c.next/\d.ns=c.ns/\d.z.cap=c.z.cap/\H'=[d.mem]):=Dp (eY h pos W) [] (Bo fun f g=>by simp only [CA,Fi,DG,CZ.mem,CZ.BA1,g]<;>omega) (by
 rintro r H' ⟨m,d,h2,B,G,I,J,O,U,rfl⟩;exact ⟨_,⟨m,d,h2,B,G,I,J,O,U,V⟩,Bo fun f g=>by simp only [CA,Fi,DG,CZ.mem,CZ.BA1,g]<;>omega⟩)
theorem oA{v:A3}{sh:List Int}{m:List A9}(W:Row 3 v (sh.map (Value.int .i64)) m)(pos cap:Int)(hp:0<=pos/\pos<=10000)(hc:1<=cap/\cap<=1000000)(Z:1<=sh.length/\sh.length<=8)(h0:∀x∈sh,0<=x)(g:sh.sum<=cap):BZ prog 6 #[I4 pos,I4 cap,v] [m] (fun r H'=>∃c:CZ,r= .tuple #[.pointer (some ⟨c.cp,0,none⟩),I4 0]/\c.ok/\(c.its=[]/\c.PL=[]/\c.win=[])/\c.pos=pos/\c.next=0/\c.ns=sh.length/\c.z.cap=cap/\H'=[c.mem,m]):=Dp (om W pos cap hp hc Z h0 g) [] (B4) (by
 rintro r H' ⟨c,B,h2,G,I,J,O,U,rfl⟩;exact ⟨_,⟨c,B,h2,G,I,J,O,U,V⟩,Bo fun f X=>by simp only [CA,Fi,DG,CZ.mem,CZ.BA1,X]<;>omega⟩)
theorem tw(h:c.ok)(G:Cf ME (.slice qa cs.length cap) cs)(I:EM p cs)(J:p=c.pos+1):BZ prog 14 #[.pointer (some ⟨c.cp,0,none⟩),.agg #[I4 p,.slice qa cs.length cap]] [c.mem,ME] (fun r H'=>∃(d:CZ) (q2:B6) (cap2:Nat) (zs:List Bk) (tv:A3) (s:List A9),r= .tuple #[tv,I4 0]/\GH c d p cs q2 cap2 zs/\Row 9 tv (zs.map Value.string) s/\H'=[d.mem,ME,s]):=Dp (bY h G I J) [] (Bo fun f g=>by simp only [CA,Fi,DG,CZ.mem,CZ.BA1,g]<;>omega) (by
 rintro r H' ⟨d,q2,cap2,zs,tv,s,O,m,h2,_,B,rfl⟩;exact ⟨_,⟨d,q2,cap2,zs,tv,s,m,h2,B,V⟩,Bo fun f g=>by simp only [CA,Fi,DG,CZ.mem,CZ.BA1,g]<;>omega⟩)
theorem aJ(h:c.okb)(g:Cf ME (.slice qa cs.length cap) cs)(m:EM p cs)(G:p≠c.pos+1):BB prog 14 #[.pointer (some ⟨c.cp,0,none⟩),.agg #[I4 p,.slice qa cs.length cap]] [c.mem,ME] (.tuple #[.slice none 0 0,I4 180]):=Gg (bZ h g m G) ((c.sW:List A9)++(c.z.S:List A9)++([(c.mb,.map c.esP c.ckP)]:List A9)++(c.su:List A9)++([(c.ip,.cells #[.map (some c.mq),c.lv] 163 (0,0))]:List A9)++([(c.mq,.map c.esQ c.ckQ)]:List A9)++(c.ML:List A9)++([(c.mi,.map c.esI c.ckI)]:List A9)++([(c.mkb,.map c.esK c.ckK)]:List A9)++(c.SI:List A9)++(c.M:List A9)++(c.MR:List A9)++[]) (Bo fun f B=>by simp only [CA,Fi,DG,CZ.mem,CZ.BA1,B]<;>omega)
theorem yy(h:c.ok){q:QM}(hq:BF q)(hk:k<c.ns)(J:k<=1000000)(base:Int)(hb:0<=base/\base<=10000){pg:B6}{cg:Nat}{L:List RP}(hL:FW ME (.slice pg L.length cg) L)(I:L.length<=1000000)(B:∀x∈L,x.fits){r0:CB}(O:Ea q L=some r0)(ax:c.next<1000000000)(af:c.its.length<500)(U:(c.pos -base).toNat<=c.win.length->1+((BD q r0 base (DC c.pos base c.win)).1.rows.length:Int)<=c.z.fr)(Tp:AK)(zp:Nat×Nat):BZ prog 7 #[.pointer (some ⟨c.cp,0,none⟩),.agg #[I4 q.kd,I4 q.tb,I4 q.cl,I4 q.lo,I4 q.hi,I4 q.bq,I4 q.ot,I4 (k:Int),I4 base,.slice pg L.length cg]] [c.mem,ME,[(1,.cells (Lib.pow10Tab.map fun z=>Value.int .u64 z).toArray Tp zp)]] (fun w H'=>∃(b:Bool) (d:CZ),w= .bool b/\d.ok/\c.like d/\(c.next<=d.next/\d.next<=c.next+1)/\ri c d q (k:Int) base L (BD q r0 base (DC c.pos base c.win)) b/\H'=[d.mem,ME,[(1,.cells (Lib.pow10Tab.map fun z=>Value.int .u64 z).toArray Tp zp)]]):=by
 have G:c.like c:=⟨rfl,rfl,rfl,rfl,rfl⟩;by_cases g:(c.pos -base).toNat<=c.win.length
 · cases hrun:(BD q r0 base (DC c.pos base c.win)).2.2 with
   |false=>
    refine Dp (rT h hq hk J base hb hL I B O g hrun Tp zp) ((c.z.S:List A9)++([(c.mb,.map c.esP c.ckP)]:List A9)++(c.su:List A9)++([(c.ip,.cells #[.map (some c.mq),c.lv] 163 (0,0))]:List A9)++([(c.mq,.map c.esQ c.ckQ)]:List A9)++(c.ML:List A9)++([(c.mi,.map c.esI c.ckI)]:List A9)++([(c.mkb,.map c.esK c.ckK)]:List A9)++(c.SI:List A9)++(c.MR:List A9)++[]) (Bo fun f m=>by simp only [CA,Fi,DG,CZ.mem,CZ.BA1,m]<;>omega) ?_;rintro w H' ⟨rfl,rfl⟩;exact ⟨_,⟨false,c,rfl,h,G,⟨Wg _,by omega⟩,.inl ⟨rfl,rfl,fun h9=>by rw [hrun]at h9;exact absurd h9.2 AW⟩,rfl⟩,Bo fun f m=>by simp only [CA,Fi,DG,CZ.mem,CZ.BA1,m]<;>omega⟩
   |true=>
    by_cases hx:∃x∈c.its,x.key=str (CJ q)
    · obtain ⟨x,hx,W⟩:=hx
      have cu:∀y∈c.its,y.key=str (CJ q)->y=x:=fun y hy X=>GL h.its.keys hy hx (X.trans W.symm);by_cases bn:base<=x.base
      · refine Dp (rR h hq hk J base hb hL I B O g hrun hx W bn Tp zp) ((c.z.S:List A9)++([(c.mb,.map c.esP c.ckP)]:List A9)++(c.su:List A9)++([(c.ip,.cells #[.map (some c.mq),c.lv] 163 (0,0))]:List A9)++([(c.mq,.map c.esQ c.ckQ)]:List A9)++(c.ML:List A9)++([(c.mkb,.map c.esK c.ckK)]:List A9)++(c.MR:List A9)++[]) (Bo fun f m=>by simp only [CA,Fi,DG,CZ.mem,CZ.BA1,m]<;>omega) ?_
        rintro w H' ⟨rfl,rfl⟩;exact ⟨_,⟨true,c,V,h,G,⟨Wg _,by omega⟩,.inr ⟨V,⟨g,hrun⟩,fun e he=> .inl he,.inl ⟨V,x,hx,W,bn⟩⟩,V⟩,Bo fun f m=>by simp only [CA,Fi,DG,CZ.mem,CZ.BA1,m]<;>omega⟩
      · refine Dp (ll h hq hk J base hb hL I B O g hrun ax hx W A1 (U g) Tp zp) [] (Bo fun f m=>by simp only [CA,Fi,DG,CZ.mem,CZ.BA1,m]<;>omega) ?_
        rintro w H' ⟨rfl,d,b,rq,wq,rc,wc,s,h1,h2,h3,_,h5,h6,rfl⟩;exact ⟨_,⟨true,d,rfl,h1,h2,⟨by omega,by omega⟩,.inr ⟨rfl,⟨g,hrun⟩,h6,.inr ⟨fun y hy X=>by rw [cu y hy X];omega,_,h5,rfl,rfl,rfl,rfl,rfl,.inr ⟨x,hx,W,rfl⟩⟩⟩,rfl⟩,Bo fun f m=>by simp only [CA,Fi,DG,CZ.mem,CZ.BA1,m]<;>omega⟩
    · have Z:∀y∈c.its,y.key≠str (CJ q):=fun y hy cO=>hx ⟨y,hy,cO⟩
      refine Dp (rQ h hq hk J base hb hL I B O g hrun ax Z af (U g) Tp zp) [] (Bo fun f m=>by simp only [CA,Fi,DG,CZ.mem,CZ.BA1,m]<;>omega) ?_;rintro w H' ⟨rfl,d,b,rq,wq,rc,wc,s,h1,h2,h3,_,h5,h6,rfl⟩;exact ⟨_,⟨true,d,rfl,h1,h2,⟨by omega,by omega⟩,.inr ⟨rfl,⟨g,hrun⟩,h6,.inr ⟨fun y hy X=>absurd X (Z y hy),_,by rw [h5,RB Z],rfl,rfl,rfl,rfl,rfl,.inl ⟨rfl,Z⟩⟩⟩,rfl⟩,Bo fun f m=>by simp only [CA,Fi,DG,CZ.mem,CZ.BA1,m]<;>omega⟩
 · refine Dp (xh h hq hk J base hb hL I B O g Tp zp) ((c.z.S:List A9)++([(c.mb,.map c.esP c.ckP)]:List A9)++(c.su:List A9)++([(c.ip,.cells #[.map (some c.mq),c.lv] 163 (0,0))]:List A9)++([(c.mq,.map c.esQ c.ckQ)]:List A9)++(c.ML:List A9)++([(c.mi,.map c.esI c.ckI)]:List A9)++([(c.mkb,.map c.esK c.ckK)]:List A9)++(c.SI:List A9)++(c.MR:List A9)++[]) (Bo fun f m=>by simp only [CA,Fi,DG,CZ.mem,CZ.BA1,m]<;>omega) ?_
   rintro w H' ⟨rfl,rfl⟩;exact ⟨_,⟨false,c,V,h,G,⟨Wg _,by omega⟩,.inl ⟨V,V,fun h9=>g h9.1⟩,V⟩,Bo fun f m=>by simp only [CA,Fi,DG,CZ.mem,CZ.BA1,m]<;>omega⟩
noncomputable instance(a b:J3):Decidable (a=b):=Classical.propDecidable _
def J3.ok(h:J3):Prop:=(0<=h.p/\h.p<=10000)/\h.ch.length=32/\h.st.length=32
instance(h:J3):Decidable h.ok:=inferInstanceAs(Decidable (_/\_))
theorem ur{x y:Chg}:x=y↔x.t=y.t/\x.k=y.k/\x.had=y.had/\x.o=y.o/\x.has=y.has/\x.n=y.n:=by
 obtain ⟨a,b,c,d,e,f⟩:=x;obtain ⟨g,m,c',B,e',G⟩:=y;simp only [Chg.mk.injEq]
theorem eqC(x y:Chg):EqT prog 3 64 (.agg x.A96) (.agg y.A96) (decide (x=y)):=
 UG C0 AE (.cons AW (DR AF rfl) (DR AF rfl) (J8 CM _ _)<| .cons AW (DR AF rfl) (DR AF rfl) (J8 CM _ _)<| .cons AW (DR E6 rfl) (DR E6 rfl) (bK LS _ _)<| .cons AW (PD (cs:=#[I4 x.o.a,I4 x.o.b,I4 x.o.c]) HB DO rfl (by exact (by decide:(6:Nat)<=10))) (PD (cs:=#[I4 y.o.a,I4 y.o.b,I4 y.o.c]) HB DO rfl (by exact (by decide:(6:Nat)<=10))) (bL Hh CM AF A6 x.o y.o)<| .cons AW (DR E6 rfl) (DR E6 rfl) (bK LS _ _)<| .cons AW (PD (cs:=#[I4 x.n.a,I4 x.n.b,I4 x.n.c]) HB DO rfl (by exact (by decide:(10:Nat)<=10))) (PD (cs:=#[I4 y.n.a,I4 y.n.b,I4 y.n.c]) HB DO rfl (by exact (by decide:(10:Nat)<=10))) (bL Hh CM AF A6 x.n y.n)<| .nil) (by
  rw [nF];simp only [List.all_cons,List.all_nil,ke,Ft,id,G3,ur])
theorem wA{x y:QM}:x=y↔x.kd=y.kd/\x.tb=y.tb/\x.cl=y.cl/\x.lo=y.lo/\x.hi=y.hi/\x.bq=y.bq/\x.ot=y.ot:=by
 obtain ⟨a,b,c,d,e,f,g⟩:=x;obtain ⟨m,B,c',G,e',I,J⟩:=y;simp only [QM.mk.injEq]
theorem eqQ(x y:QM):EqT prog 3 34 (.agg x.A98) (.agg y.A98) (decide (x=y)):=
 UG CT AE (.cons AW (DR AF rfl) (DR AF rfl) (J8 CM _ _)<| .cons AW (DR AF rfl) (DR AF rfl) (J8 CM _ _)<| .cons AW (DR AF rfl) (DR AF rfl) (J8 CM _ _)<| .cons AW (DR AF rfl) (DR AF rfl) (J8 CM _ _)<| .cons AW (DR AF rfl) (DR AF rfl) (J8 CM _ _)<| .cons AW (DR AF rfl) (DR AF rfl) (J8 CM _ _)<| .cons AW (DR AF rfl) (DR AF rfl) (J8 CM _ _)<| .nil) (by
  rw [nF];simp only [List.all_cons,List.all_nil,ke,Ft,id,G3,wA])
def BP.key(r:BP):Int×List Chg:=(r.p,r.cs)
variable{M:List A9}{vb va:A3}
theorem vI{a b:List Chg}(ha:Cf M va a)(hb:Cf M vb b):BB prog 119 #[va,vb] [M] (.bool (decide (a=b))):=by
 have j5:=mL;obtain ⟨pa,ca,rfl,ic,X⟩:=ha;obtain ⟨pb,cb,rfl,j3,Z⟩:=hb;refine Se func119 ntmps119 [0,1] ?_;intro u R;refine A0<|A4 Y<|Zq<|A0<|Zm Y<|Zv (AY GF Y)<|Zm Y<|Zv (AY GF Y)<|Zv (Dn Y Y)<|A5<|Aq Y (fun U=>?_) (fun U=>?_);·
  refine A0<|A4 Y<|AJ<|Zt<|AO rfl results119 Y (by exact ⟨Dz (fun e=>U (by rw [e])),rfl⟩)
 have af:a.length=b.length:=by omega
 refine AC<|Zx<|Zq<|A0<|Zm Y<|Zv (AY GF Y)<|Zm Y<|A5<|AQ<|Zb [13,0,1,12] ?_;refine BA (e0:=[(13,_)]) (fun m e H=>∃(i:Nat),m=a.length -i/\(i<=a.length/\∀j,j<i->a[j]?=b[j]?)/\e=[(13,I4 (i:Int))]/\H=[]) (by exact ⟨0,V,⟨C5 _,by intro j hj;omega⟩,V,V⟩) Wp ?_;rintro _ _ _ ⟨i,rfl,⟨hi,g⟩,rfl,rfl⟩;refine A0<|Zv (Au Y Y)<|A5<|Zq<|Aq Y (fun ax=>?_) (fun ax=>?_);·
  obtain ⟨x,hx⟩:∃x,a[i]?=some x:=⟨_,B7 A1⟩;obtain ⟨y,hy⟩:∃y,b[i]?=some y:=⟨_,B7 A1⟩;obtain ⟨g1,gq,B,T1,cO,rfl,bn,ek,J⟩:=X i x hx;obtain ⟨g2,gy,G,T2,d9,rfl,cu,gm,O⟩:=Z i y hy;refine AC<|Zx<|Zq<|AQ<|A0<|Zm Y<|A4 Y<|Zq<|Az (n:=9) (0::0::3::7::0::0::48::112::255::[]) 0 AE AE V<|A2 0 V (AP Y)<|A2 1 V (AP Y)<|A2 2 V (Ad GF C7 Y Y A1)<|Ce (b:=g1) (x:= .cells B T1 cO) (D':=15) 3 V rfl V (by simp [bn]) (AA (cs:=x.A96) G2 C7 Y A1 J) ?_;refine A2 4 V (AP Y)<|A2 5 V (AP Y)<|A2 6 V (Ad GF C7 Y Y A1)<|Ce (b:=g2) (x:= .cells G T2 d9) (D':=255) 7 V rfl V (by simp [cu]) (AA (cs:=y.A96) G2 C7 Y A1 O) ?_;refine A2 8 V (tg AE Y Y (eqC x y))<|Ag<|Zx<|AU Y (fun I=>?_) (fun I=>?_);·
   have I:¬x=y:=by simpa using I
   refine A0<|AN Y<|Zn [4] ?_;refine Zx<|AJ<|Ac<|Zt<|Zt<|Ac<|Zt<|AO rfl results119 Y (by exact ⟨Dz (fun e=>by rw [e,hy]at hx;injection hx with hx;exact I hx.symm),rfl⟩)
  have W:x=y:=by simpa using I
  refine AC<|A8<|Zx<|Zg<|Ya (n:=1) Y Y<|Zm Y<|Z0<|Zn [13,0,1,12] ?_;refine Ab (e':=[(13,_)]) (by exact ⟨i+1,rfl,⟨by omega,fun j hj=>by rcases E4 j i with h9|h9;exact g j h9;obtain rfl:j=i:=A1;rw [hx,hy];exact congrArg some W⟩,rfl,rfl⟩)
 refine Ay<|Zt<|Zt<|AR<|Zx<|A0<|A4 Y<|AJ<|AO V results119 Y (by exact ⟨JQ (L9 af (fun j hj=>g j A1)),V⟩)
theorem eO{a b:BP}(B:Cf M (.slice a.q a.cs.length a.cap) a.cs)(G:Cf M (.slice b.q b.cs.length b.cap) b.cs):BB prog 62 #[.agg #[I4 a.p,.slice a.q a.cs.length a.cap],.agg #[I4 b.p,.slice b.q b.cs.length b.cap]] [M] (.bool (decide (a.key=b.key))):=by
 refine Se func62 ntmps62 [0,1] ?_;intro u R;refine A0<|Ze (Bx #[_,_])<|AG fun I=>Ze (Bx #[_,_])<|AG fun J=>A4 Y<|A0<|Zh 0 Ge V rfl A6 Y<|Zl AF Y<|Zh 0 Ge V rfl A6 Y<|Zl AF Y<|Zv (CK Y Y)<|Zm Y<|Aj (t:=10) Y V (fun g=>?_) (fun g=>?_);·
  refine Yf 1 Ge V rfl Lq Y<|Yl N4 Y<|Yf 1 Ge V rfl Lq Y<|Yl N4 Y<|Xr [_,_] Y call119 Y V (vI B G)<|Zv (AV Y Y)<|AN Y<|Zn [4] ?_;refine Zx<|AJ<|AO V results62 Y (by exact ⟨by exact KZ ⟨fun m=>Prod.ext g m,fun m=>(Prod.ext_iff.1 m).2⟩,V⟩)
 refine A7 Y V<|A7 Y V<|A7 Y V<|A7 Y V<|A7 Y V<|Zv (AL Y Y)<|AN Y<|Zn [4] ?_;refine Zx<|AJ<|AO V results62 Y (by exact ⟨by exact Dz (fun e=>g (Prod.ext_iff.1 e).1),V⟩)
theorem iK{a b:List BP}(ha:EE M va a)(hb:EE M vb b):BB prog 118 #[va,vb,.func (.func 62) #[] #[]] [M] (.bool (decide (a.map BP.key=b.map BP.key))):=by
 have l9:=mL;obtain ⟨pa,ca,rfl,l5,Z⟩:=ha;obtain ⟨pb,cb,rfl,l8,af⟩:=hb;refine Se func118 ntmps118 [0,1,2] ?_;intro u R;refine A0<|A4 Y<|Zq<|A0<|Zm Y<|Zv (AY GO Y)<|Zm Y<|Zv (AY GO Y)<|Zv (Dn Y Y)<|A5<|Aq Y (fun O=>?_) (fun O=>?_);·
  refine A0<|A4 Y<|AJ<|Zt<|AO V results118 Y (by exact ⟨Dz (fun e=>O (by have:=congrArg List.length e;simpa using this)),V⟩)
 have ax:a.length=b.length:=by omega
 refine AC<|Zx<|Zq<|A0<|Zm Y<|Zv (AY GO Y)<|Zm Y<|A5<|AQ<|Zb [17,1,2,15,16] ?_;refine BA (e0:=[(17,_)]) (fun m e H=>∃(i:Nat),m=a.length -i/\(i<=a.length/\∀j,j<i->(a.map BP.key)[j]?=(b.map BP.key)[j]?)/\e=[(17,I4 (i:Int))]/\H=[]) (by exact ⟨0,V,⟨C5 _,by intro j hj;omega⟩,V,V⟩) Wp ?_;rintro _ _ _ ⟨i,rfl,⟨hi,g⟩,rfl,rfl⟩;refine A0<|Zv (Au Y Y)<|A5<|Zq<|Aq Y (fun bn=>?_) (fun bn=>?_);·
  obtain ⟨x,hx⟩:∃x,a[i]?=some x:=⟨_,B7 A1⟩;obtain ⟨y,hy⟩:∃y,b[i]?=some y:=⟨_,B7 A1⟩;obtain ⟨d9,g1,j3,B,T1,gm,rfl,cu,gy,I⟩:=Z i x hx;obtain ⟨ek,g2,j5,G,T2,gq,rfl,cO,ic,J⟩:=af i y hy;refine AC<|Zx<|Zq<|AQ<|A0<|Zm Y<|BV (Ad GO F1 Y Y A1)<|CG (cs:=[(g1,.cells B T1 gm)]) (by simp [cu]) (AA (cs:=#[_,_]) HP F1 Y A1 I) V rfl<|Ze (Al S2 #[_,_])<|AG fun bx=>Za Y<|Xe (Xw F1 #[I4 x.p,.slice x.q x.cs.length x.cap])<|A5<|A0<|Zm Y<|Zm Y<|BV (Ad GO F1 Y Y A1)<|CG (cs:=[(g2,.cells G T2 gq)]) (by simp [cO]) (AA (cs:=#[_,_]) HP F1 Y A1 J) V rfl<|Ze (Al S2 #[_,_])<|AG fun kv=>Xe (Xw F1 #[I4 y.p,.slice y.q y.cs.length y.cap])<|Z0<|Zn [1,2,8,9,15,16,17] ?_;refine Zx<|A0<|Zm Y<|Zo Wh (Pa #[_,_] HP F1 Y)<|Zo Wh (Pa #[_,_] HP F1 Y)<|Xr [_,_] Y call62 Y V (eO d9 ek)<|Zv (Cn Y)<|A5<|Aq Y (fun W=>?_) (fun W=>?_);·
   refine A0<|A4 Y<|AJ<|Ac<|Zt<|Zt<|Ac<|Zt<|AO V results118 Y (by exact ⟨Dz (fun e=>by have U:=congrArg (fun l=>l[i]?) e;simp only [E0,hx,hy,NX]at U;injection U with U;exact W U),V⟩)
  have X:x.key=y.key:=HL.1 W;refine AC<|A8<|Zx<|Zg<|Ya (n:=1) Y Y<|Zm Y<|Z0<|Zn [17,1,2,15,16] ?_;refine Ab (e':=[(17,_)]) (by exact ⟨i+1,rfl,⟨by omega,fun j hj=>by rcases E4 j i with h9|h9;exact g j h9;obtain rfl:j=i:=A1;rw [E0,E0,hx,hy];exact congrArg some X⟩,rfl,rfl⟩)
 refine Ay<|Zt<|Zt<|AR<|Zx<|A0<|A4 Y<|AJ<|AO rfl results118 Y (by exact ⟨JQ (L9 (by simp [ax]) (fun j hj=>g j (by rw [B8]at hj;omega))),rfl⟩)
theorem VA{a b:List BP}(g:EE M va a)(m:EE M vb b):BB prog 61 #[va,vb,.func (.func 62) #[] #[]] [M] (.bool (decide (a.map BP.key=b.map BP.key))):=by
 refine Se func61 ntmps61 [0,1,2] ?_;intro u R;refine A0<|A4 Y<|A0<|Zm Y<|Zm Y<|Zm Y<|Xr [_,_,_] Y call118 Y V (iK g m)<|A4 Y<|AJ<|AO V results61 Y (by exact ⟨V,V⟩)
set_option maxHeartbeats 1000000 in
theorem oO{a b:List RP}(ha:FW M va a)(hb:FW M vb b):BB prog 113 #[va,vb,.func (.func 60) #[] #[]] [M] (.bool (decide (a=b))):=by
 have o8:=mL;obtain ⟨pa,ca,rfl,l8,gq⟩:=ha.form;obtain ⟨pb,cb,rfl,l9,gy⟩:=hb.form;refine Se func113 ntmps113 [0,1,2] ?_;intro u R;refine A0<|A4 Y<|Zq<|A0<|Zm Y<|Zv (AY O2 Y)<|Zm Y<|Zv (AY O2 Y)<|Zv (Dn Y Y)<|A5<|Aq Y (fun O=>?_) (fun O=>?_);·
  refine A0<|A4 Y<|AJ<|Zt<|AO rfl results113 Y (by exact ⟨Dz (fun e=>O (by rw [e])),rfl⟩)
 have X:a.length=b.length:=by omega
 refine AC<|Zx<|Zq<|A0<|Zm Y<|Zv (AY O2 Y)<|Zm Y<|A5<|AQ<|Zb [17,1,2,15,16] ?_;refine BA (e0:=[(17,_)]) (fun m e H=>∃(i:Nat),m=a.length -i/\(i<=a.length/\∀j,j<i->a[j]?=b[j]?)/\e=[(17,I4 (i:Int))]/\H=[]) (by exact ⟨0,V,⟨C5 _,by intro j hj;omega⟩,V,V⟩) Wp ?_;rintro _ _ _ ⟨i,rfl,⟨hi,g⟩,rfl,rfl⟩;refine A0<|Zv (Au Y Y)<|A5<|Zq<|Aq Y (fun Z=>?_) (fun Z=>?_);·
  obtain ⟨x9,hx⟩:∃x,a[i]?=some x:=⟨_,B7 A1⟩;obtain ⟨y9,hy⟩:∃y,b[i]?=some y:=⟨_,B7 A1⟩;obtain ⟨x,cO,bn,g1,j5,B,T1,ek,rfl,af,ic,I⟩:=ha.at hx;obtain ⟨y,d9,cu,g2,kv,G,T2,gm,rfl,ax,j3,J⟩:=hb.at hy;subst cO d9;refine AC<|Zx<|Zq<|AQ<|A0<|Zm Y<|BV (Ad O2 HN Y Y A1)<|CG (cs:=[(g1,.cells B T1 ek)]) (by simp [af]) (AA (cs:=#[_,_,_,_,_,_,_,_,_]) S4 HN Y A1 I) V rfl<|Ze (Al Z1 #[_,_,_,_,_,_,_,_,_])<|AG fun bx=>Za Y<|Xe (Xw HN #[I4 x.x.tb,I4 x.x.cl,I4 x.x.lo,I4 x.x.hi,I4 x.x.ct,I4 x.x.fi,.slice x.qr x.x.rows.length x.cr,.slice x.qp x.x.paths.length x.cp,.slice x.qt x.x.roots.length x.ct])<|A5<|A0<|Zm Y<|Zm Y<|BV (Ad O2 HN Y Y A1)<|CG (cs:=[(g2,.cells G T2 gm)]) (by simp [ax]) (AA (cs:=#[_,_,_,_,_,_,_,_,_]) S4 HN Y A1 J) V rfl<|Ze (Al Z1 #[_,_,_,_,_,_,_,_,_])<|AG fun l5=>Xe (Xw HN #[I4 y.x.tb,I4 y.x.cl,I4 y.x.lo,I4 y.x.hi,I4 y.x.ct,I4 y.x.fi,.slice y.qr y.x.rows.length y.cr,.slice y.qp y.x.paths.length y.cp,.slice y.qt y.x.roots.length y.ct])<|Z0<|Zn [1,2,8,9,15,16,17] ?_;refine Zx<|A0<|Zm Y<|Zo Wh (Pa #[_,_,_,_,_,_,_,_,_] S4 HN Y)<|Zo Wh (Pa #[_,_,_,_,_,_,_,_,_] S4 HN Y)<|Xr [_,_] Y call60 Y V (lK bn.rp cu.rp)<|Zv (Cn Y)<|A5<|Aq Y (fun U=>?_) (fun U=>?_);·
   refine A0<|A4 Y<|AJ<|Ac<|Zt<|Zt<|Ac<|Zt<|AO rfl results113 Y (by exact ⟨Dz (fun e=>by rw [e,hy]at hx;injection hx with hx;exact U hx.symm),rfl⟩)
  have W:x.x=y.x:=HL.1 U;refine AC<|A8<|Zx<|Zg<|Ya (n:=1) Y Y<|Zm Y<|Z0<|Zn [17,1,2,15,16] ?_;refine Ab (e':=[(17,_)]) (by exact ⟨i+1,rfl,⟨by omega,fun j hj=>by rcases E4 j i with h9|h9;exact g j h9;obtain rfl:j=i:=A1;rw [hx,hy];exact congrArg some W⟩,rfl,rfl⟩)
 refine Ay<|Zt<|Zt<|AR<|Zx<|A0<|A4 Y<|AJ<|AO V results113 Y (by exact ⟨JQ (L9 X (fun j hj=>g j A1)),V⟩)
theorem YG{a b:List RP}(g:FW M va a)(m:FW M vb b):BB prog 59 #[va,vb,.func (.func 60) #[] #[]] [M] (.bool (decide (a=b))):=by
 refine Se func59 ntmps59 [0,1,2] ?_;intro u R;refine A0<|A4 Y<|A0<|Zm Y<|Zm Y<|Zm Y<|Xr [_,_,_] Y call113 Y V (oO g m)<|A4 Y<|AJ<|AO V results59 Y (by exact ⟨V,V⟩)
def wR(h:J3)(r:BP)(st:Bs):Prop:=EM r.p r.cs/\h.ok/\st.length=32/\r.p=h.p+1
noncomputable instance(h:J3)(r:BP)(st:Bs):Decidable (wR h r st):=Classical.propDecidable _
def wj(h:J3)(r:BP)(st:Bs):J3:=⟨r.p,uv h.ch (ue r.p r.cs),st⟩
noncomputable def zQ(st:Bs):J3->List BP->Option J3
 |h,[]=>some h
 |h,r::l=>if wR h r st then zQ st (wj h r st) l else none
def dH(a:J3)(l:List BP)(b:J3):Prop:=a.ok/\b.ok/\zQ b.st a l=some b
noncomputable instance(a:J3)(l:List BP)(b:J3):Decidable (dH a l b):=Classical.propDecidable _
def YM.eqv(a b:YM):Prop:=a.q=b.q/\a.since=b.since/\a.until_=b.until_/\a.base=b.base/\a.res=b.res/\a.ranges=b.ranges/\a.recs.map BP.key=b.recs.map BP.key
instance(a b:YM):Decidable (a.eqv b):=inferInstanceAs(Decidable (_/\_))
def vf(base until_:J3)(a:YM):Prop:=base.p=a.base/\until_.p=a.until_/\dH base a.recs until_/\(∀x∈a.ranges,rh base.st x)/\∃b,K5 a.q a.base a.ranges a.recs=some b/\a.eqv b
noncomputable instance(base until_:J3)(a:YM):Decidable (vf base until_ a):=Classical.propDecidable _
def RP.small(x:RP):Prop:=(∀s∈x.roots,s.length<=140737488354000)/\∀l∈x.paths,l.length<=1000000
theorem JG{a b:YM}(h:¬a.eqv b):Value.bool false=Value.bool (decide (a.eqv b)):=congrArg Value.bool (Cd h).symm
theorem fA{x y:Ri}(hx:x.ok M)(hy:y.ok M):BB prog 18 #[.agg x.A99,.agg y.A99] [M] (.bool (decide (x.a.eqv y.a))):=by
 refine Se func18 ntmps18 [0,1] ?_;intro u R;refine A0<|Ze (Bx x.A99)<|AG fun O=>Ze (Bx y.A99)<|AG fun U=>A4 Y<|A0<|Zh 0 HF V rfl CN Y<|Zo Wh (AA (cs:=#[_,_,_,_,_,_,_]) F2 CN Y B1 As)<|Zh 0 HF V rfl CN Y<|Zo Wh (AA (cs:=#[_,_,_,_,_,_,_]) F2 CN Y B1 As)<|Zv (tj AE Y Y (eqQ x.a.q y.a.q))<|Zm Y<|Aj (t:=10) Y V (fun g=>?_) (fun g=>?_);·
  refine Yf 10 HF V rfl A6 Y<|Yl AF Y<|Yf 10 HF V rfl A6 Y<|Yl AF Y<|Yg (CK Y Y)<|Zv (AV Y Y)<|Zm Y<|Aj (t:=17) Y V (fun h2=>?_) (fun h2=>?_);·
   refine Yf 11 HF V rfl A6 Y<|Yl AF Y<|Yf 11 HF V rfl A6 Y<|Yl AF Y<|Yg (CK Y Y)<|Zv (AV Y Y)<|Zm Y<|Aj (t:=24) Y V (fun m=>?_) (fun m=>?_);·
    refine Yf 12 HF V rfl A6 Y<|Yl AF Y<|Yf 12 HF V rfl A6 Y<|Yl AF Y<|Yg (CK Y Y)<|Zv (AV Y Y)<|Zm Y<|Aj (t:=31) Y V (fun B=>?_) (fun B=>?_);·
     refine Yf 7 HF V rfl B2 Y<|Db Y Wh (AA (cs:=#[_,_,_]) C6 B2 Y B1 As) V rfl<|Yf 7 HF V rfl B2 Y<|Db Y Wh (AA (cs:=#[_,_,_]) C6 B2 Y B1 As) V rfl<|Xr [_,_] Y call58 Y V (iJ hx.1 hy.1)<|Zv (AV Y Y)<|Zm Y<|Aj (t:=38) Y V (fun G=>?_) (fun G=>?_);·
      refine Yf 13 HF V rfl MD Y<|Yl PC Y<|Yf 13 HF V rfl MD Y<|Yl PC Y<|Xr [_,_,_] Y call59 Y V (YG hx.2.1 hy.2.1)<|Zv (AV Y Y)<|Zm Y<|Aj (t:=45) Y V (fun I=>?_) (fun I=>?_);·
       refine Yf 14 HF V rfl PA Y<|Yl ZS Y<|Yf 14 HF V rfl PA Y<|Yl ZS Y<|Xr [_,_,_] Y call61 Y V (VA hx.2.2 hy.2.2)<|Zv (AV Y Y)<|AN Y<|Zn [4] ?_;refine Zx<|AJ<|AO V dt Y (by exact ⟨by exact KZ ⟨fun J=>⟨g,h2,m,B,G,I,J⟩,fun J=>J.2.2.2.2.2.2⟩,V⟩)
      refine A7 Y V<|A7 Y V<|A7 Y V<|A7 Y V<|A7 Y V<|Zv (AL Y Y)<|AN Y<|Zn [4] ?_;refine Zx<|AJ<|AO V dt Y (by exact ⟨by exact JG (fun e=>I e.2.2.2.2.2.1),V⟩)
     refine A7 Y V<|A7 Y V<|A7 Y V<|A7 Y V<|A7 Y V<|Zv (AL Y Y)<|Zm Y<|A7 Y V<|A7 Y V<|A7 Y V<|A7 Y V<|A7 Y V<|Zv (AL Y Y)<|AN Y<|Zn [4] ?_;refine Zx<|AJ<|AO V dt Y (by exact ⟨by exact JG (fun e=>G e.2.2.2.2.1),V⟩)
    refine A7 Y V<|A7 Y V<|A7 Y V<|A7 Y V<|A7 Y V<|Zv (AL Y Y)<|Zm Y<|A7 Y V<|A7 Y V<|A7 Y V<|A7 Y V<|A7 Y V<|Zv (AL Y Y)<|Zm Y<|A7 Y V<|A7 Y V<|A7 Y V<|A7 Y V<|A7 Y V<|Zv (AL Y Y)<|AN Y<|Zn [4] ?_;refine Zx<|AJ<|AO V dt Y (by exact ⟨by exact JG (fun e=>B e.2.2.2.1),V⟩)
   refine A7 Y V<|A7 Y V<|A7 Y V<|A7 Y V<|A7 Y V<|Zv (AL Y Y)<|Zm Y<|A7 Y V<|A7 Y V<|A7 Y V<|A7 Y V<|A7 Y V<|Zv (AL Y Y)<|Zm Y<|A7 Y V<|A7 Y V<|A7 Y V<|A7 Y V<|A7 Y V<|Zv (AL Y Y)<|Zm Y<|A7 Y V<|A7 Y V<|A7 Y V<|A7 Y V<|A7 Y V<|Zv (AL Y Y)<|AN Y<|Zn [4] ?_;refine Zx<|AJ<|AO V dt Y (by exact ⟨by exact JG (fun e=>m e.2.2.1),V⟩)
  refine A7 Y V<|A7 Y V<|A7 Y V<|A7 Y V<|A7 Y V<|Zv (AL Y Y)<|Zm Y<|A7 Y V<|A7 Y V<|A7 Y V<|A7 Y V<|A7 Y V<|Zv (AL Y Y)<|Zm Y<|A7 Y V<|A7 Y V<|A7 Y V<|A7 Y V<|A7 Y V<|Zv (AL Y Y)<|Zm Y<|A7 Y V<|A7 Y V<|A7 Y V<|A7 Y V<|A7 Y V<|Zv (AL Y Y)<|Zm Y<|A7 Y V<|A7 Y V<|A7 Y V<|A7 Y V<|A7 Y V<|Zv (AL Y Y)<|AN Y<|Zn [4] ?_;refine Zx<|AJ<|AO V dt Y (by exact ⟨by exact JG (fun e=>h2 e.2.1),V⟩)
 refine A7 Y V<|A7 Y V<|A7 Y V<|A7 Y V<|A7 Y V<|Zv (AL Y Y)<|Zm Y<|A7 Y V<|A7 Y V<|A7 Y V<|A7 Y V<|A7 Y V<|Zv (AL Y Y)<|Zm Y<|A7 Y V<|A7 Y V<|A7 Y V<|A7 Y V<|A7 Y V<|Zv (AL Y Y)<|Zm Y<|A7 Y V<|A7 Y V<|A7 Y V<|A7 Y V<|A7 Y V<|Zv (AL Y Y)<|Zm Y<|A7 Y V<|A7 Y V<|A7 Y V<|A7 Y V<|A7 Y V<|Zv (AL Y Y)<|Zm Y<|A7 Y V<|A7 Y V<|A7 Y V<|A7 Y V<|A7 Y V<|Zv (AL Y Y)<|AN Y<|Zn [4] ?_;refine Zx<|AJ<|AO V dt Y (by exact ⟨by exact JG (fun e=>g e.1),V⟩)
def putE(n:Int):Int:=if n< -4611686018427387903 then 10 else 0
theorem OZ{z:Int}(k:Int)(m:1<=k)(g:-9223372036854775808<=z)(h2:z<=9223372036854775807):-9223372036854775808<=z.tdiv k/\z.tdiv k<=9223372036854775807:=by
 have h:=Int.natAbs_tdiv_le_natAbs z k;rcases Int.lt_or_le z 0 with hz|hz
 · have:z.tdiv k<=0:=by
    obtain ⟨y,rfl⟩:∃y,z=-y:=⟨-z,by omega⟩;rw [Int.neg_tdiv];have:=Int.tdiv_nonneg (a:=y) (b:=k) A1 A1
    omega
   omega
 · have:=Int.tdiv_nonneg hz (show(0:Int)<=k by omega)
   omega
theorem VG{kd tb cl lo hi bq ot:Int}(h:(0<=tb/\tb<=3)/\(0<=cl/\cl<=3)/\(-1000000000<=lo/\lo<=hi/\hi<=1000000000)/\
 ((kd=1/\cl=0/\lo=hi/\(1<=lo/\lo<=1000000)/\bq=0/\ot=0)\/((kd=2\/kd=3)/\bq=0/\ot=0)\/
  ((kd=4\/kd=5\/kd=6)/\(1<=bq/\bq<=3)/\ot=0)\/(kd=7/\(1<=bq/\bq<=3)/\(0<=ot/\ot<=3)))):BF ⟨kd,tb,cl,lo,hi,bq,ot⟩:=h
theorem rV(rs:List AX)(c:Chg):(EN rs c).length<=rs.length+1:=by
 unfold EN Ny;simp only [BW,CC,CD];split<;>simp only [Fl,LI]<;>omega
theorem TB:∀(cs:List Chg) (rs:List AX),(DU rs cs).length<=rs.length+cs.length
 |[],_=>D2 _
 |c::cs,rs=>by
  have g:=TB cs (EN rs c);have h2:=rV rs c
  rw [Dd];exact My g A1
variable{l:List BP}
theorem FC.few(h:FC l):∀i,i<=l.length->(Bb (l.take i)).length<=3*i
 |0,_=>by rw [Kd];exact D2 _
 |i+1,hi=>by
  obtain ⟨r,g⟩:∃r,l[i]?=some r:=⟨_,B7 A1⟩;rw [Bn g,Gn];have m:=TB r.cs (Bb (l.take i))
  have h2:=FC.few h i A1;have B:=(h i r g).2
  omega
theorem xv{q:B6}(m:EE M (.slice q l.length cap) l)(g:FC l)(I:l.length<=1000000)(k:Nat)(B:k<=l.length):BZ prog 33 #[.slice q l.length cap,I4 (k:Int)] [M] (fun r H'=>∃v s,r= .tuple #[v,I4 0]/\Rh v (k:Int) (Bb (l.take k)) s/\H'=[s,M]):=by
 refine H6 (w8 q cap l M m g I k B) V ?_;rintro r H' ⟨W,U,es,ck,lm,rfl,J,G,rfl⟩;obtain ⟨O,hn⟩:=g.rows k B;exact ⟨_,⟨_,_,V,⟨W,U,es,ck,lm,V,J,G,O,hn,V⟩,V⟩,by simp⟩
def NU(l:List BP)(a b:Nat):List BP:=(l.drop a).take (b -a)
theorem qZ(h:FC l)(B:l.length<=20)(g:k<=l.length)(q:QM):(CS (Bb (l.take k)) q).length<=100:=by
 have m:=h.few k g;have h2:=(@Su (Bb (l.take k)) q.tb q.cl.toNat q.lo q.hi).1
 unfold CS;omega
theorem nH(rs:List AX)(q:QM):(Ff rs q).length<=1+(CS rs q).length:=by
 unfold Ff;split;· rw [Dd,B8];omega
 · simp
end Go.Proofs.YtfhjaegddfehhabGreatDoor
