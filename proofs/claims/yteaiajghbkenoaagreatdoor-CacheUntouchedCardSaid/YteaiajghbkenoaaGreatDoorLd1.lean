/- Apply. -/
/- New, Reset, Window, Touch; no cache. -/
/- A cache as one piece of memory. -/
/- Heads, changes, records, proofs compared. -/
/- logtree.Next, Follows. -/
/- proof.Same, Check. -/
/- The reference of layer 1: PutInt, Int, String. -/
/- The plain helpers of the laws of chapter 11. -/
/- The helpers of the laws of chapter 18. -/
/- What is built on a log, in plain words; the example of chapter 11. -/
/- A cache and a log, in plain words. -/
/- The example of chapter 18. -/
/- Sane. -/
/- The records that integers determine, as a function. -/
import Derived.Test.YteaiajghbkenoaaGreatDoorEz
import Derived.Test.YteaiajghbkenoaaGreatDoorCa11
import Derived.Test.YteaiajghbkenoaaGreatDoorCo1
import Derived.Test.YteaiajghbkenoaaGreatDoorPy5
import Derived.Test.YteaiajghbkenoaaGreatDoorTr6
import Derived.Test.YteaiajghbkenoaaGreatDoorEx36
import Derived.Test.YteaiajghbkenoaaGreatDoorLg4
import Derived.Test.YteaiajghbkenoaaGreatDoorEx5
import Derived.Test.YteaiajghbkenoaaGreatDoorTr8
import Derived.Test.YteaiajghbkenoaaGreatDoorQe1
set_option linter.unusedVariables false
set_option linter.unusedSimpArgs false
namespace Go.Proofs.YteaiajghbkenoaaGreatDoor
open Go.Proofs.Tryz
open Go Go.RowKit Gw
set_option maxRecDepth 100000
attribute [local irreducible] Gw.At Gw.Nx Gw.Ops
variable{i:Nat}
theorem Rj{α:Type}{l:List α}(g:l.Nodup){x:α}(h:l[i]?=some x):x∉l.take i:=fun m=>by
 have h2:l=l.take i++x::l.drop (i+1):=by
  obtain ⟨B,G⟩:=B9.1 h;rw [<-G,<-RE B,I3]
 rw [h2,Ge]at g;exact g.2.2 x m x (Dd ..) V
variable{c:CZ}{p:Int}{qa:Option Addr}{cap:Nat}{cs:List Chg}{ME:List A9}
theorem ah(h:c.ok)(hC:Cr ME (.slice qa cs.length cap) cs)(hR:EH p cs)(hp:p=c.pos+1):BZ prog 16 #[.pointer (some ⟨c.cp,0,none⟩),.agg #[I4 p,.slice qa cs.length cap]] [[(c.cp,.cells c.A33 120 (0,0))],c.sW,c.z.S,[(c.mb,.map c.esP c.ckP)],c.su,[(c.ip,.cells #[.map (some c.mq),c.lv] 186 (0,0))],[(c.mq,.map c.esQ c.ckQ)],c.ML,[(c.mi,.map c.esI c.ckI)],[(c.mkb,.map c.esK c.ckK)],c.SI,c.M,c.MR,ME] (fun r H'=>∃(d:CZ) (q2:Option Addr) (cap2:Nat) (zs:List ByteArray) (tv:Value) (s sM:List A9),r= .tuple #[tv,I4 0]/\GX c d p cs q2 cap2 zs/\d.M=sM++c.M/\Row 9 tv (zs.map Value.string) s/\H'=[[(d.cp,.cells d.A33 120 (0,0))],d.sW,d.z.S,[(d.mb,.map d.esP d.ckP)],d.su,[(d.ip,.cells #[.map (some d.mq),d.lv] 186 (0,0))],[(d.mq,.map d.esQ d.ckQ)],d.ML,[(d.mi,.map d.esI d.ckI)],[(d.mkb,.map d.esK d.ckK)],d.SI,d.M,d.MR,ME,s]):=by
 have zq:=mL;obtain ⟨p9,za,e9,zt,zm⟩:=id hC;injection e9 with e91 e92 e93
 subst e91 e93;have zy:=h.pos
 have zu:=hR.pos;have zl:=hR.len
 have Gl:=h.wl;have FT:=Et h.win
 have ic:∀ch∈cs,ch.ok:=fun ch ax=>by
  obtain ⟨i,hi⟩:=GW ax;exact hR.all i ch hi
 have sJ:∀x∈c.its.map ItM.iq,BJ x.2:=fun y hy=>by
  obtain ⟨x,hx,rfl⟩:=Bk.1 hy;exact h.its.q x hx
 have sw:(c.its.map ItM.iq).length<=500:=by rw [B2];exact h.its.len
 refine DL func16 V ntmps16 V ?_;intro u R;refine Zb [0,1] ?_;refine A0<|Ze (Bx #[_])<|AD fun bc=>Ze (Bx #[I4 p,.slice qa cs.length cap])<|AD fun br=>Za Y<|A3 Y<|Zq<|AQ<|A0<|Zl J0 Y ?_;refine Zv (Be N6 Y Y)<|A3 Y<|AX Y (fun gB=>by cases gB)<|fun gB=>Zq<|Az (n:=14) (0::1::3::7::15::31::15::79::207::463::975::2047::4095::8191::[]) 2 A6 A6 V<|E6 0 V Wh (AA (cs:=#[I4 p,.slice qa cs.length cap]) HW F2 Y Ax (by exact BM V)) ?_;refine Yw 1 3 V (Zu [_] Y call51 Y V (Pm p qa cap cs ME hC)) ?_;rintro _ _ ⟨rfl,rfl⟩;rw [CM hR];refine A2 2 V (Bo Y)<|A2 3 V (AO Y)<|Bu (t:=19) Y (fun g1=>?_) (fun g1=>?_)
 ·
  rw [g1];cases g1
 rw [g1];refine AH 4 V (AB (off:=0) GS V rfl A5 Y)<|DA 5 V Wh (BO AE Y AN) ?_;refine DA 6 V Wh (BO J0 Y AN) ?_;refine AH 7 V (Aq Y V)<|AH 8 V (AB (off:=0) F0 V rfl A5 Y)<|DA 9 V Wh (BO AE Y AN) ?_
 (refine AH 10 rfl (HV Y Y (IntWalk.i64_in _ ?_)) ?_;(focus (omega)))
 refine AH 11 V (J9 Y Y)<|A2 12 V (AL Y Y)<|A2 13 V (Aw Y)<|Ah<|Zn [2,3,15] ?_;refine Zx<|Au Y (fun h3=>by omega)<|fun h3=>AC<|A8<|Zx<|A0<|Zl J0 Y ?_;refine Zh 0 GS V rfl A5 Y<|Zl AE Y ?_;refine Zp Y V<|Zh 0 F0 V rfl A5 Y<|Xe (Zs A5 Y Y V) ?_;refine A4<|Zq<|Az (n:=12) (0::0::2::6::14::0::32::96::254::511::1023::2047::[]) 2496 A6 A6 V<|B3 0 V J0 Y ?_;refine B3 1 V J0 Y ?_;refine A2 2 V (Aq Y V)<|A2 3 V (AB (off:=1) F0 V rfl S6 Y)<|B3 4 V isAgg25 Y ?_;refine E6 5 V Wh (AA (cs:=#[I4 p,.slice qa cs.length cap]) HW F2 Y Ax (by exact BM V)) ?_;refine Zz (l:=[6])<|B1 [false,true,true,true] [(4,(_,_)),(1,(_,_)),(0,(_,_))] V rfl (Zw [_] Y call52 Y V (Qj p hC A1)) ?_ Bz Ai;rintro _ _ ⟨_,⟨q2,cap2,s2,rfl,gq,rfl⟩,rfl⟩;refine B5<|Yz 7 96 255 [4,1,0] [true,true,true] [(4,(_,_)),(1,(_,_)),(0,(_,_))] V Y V rfl V rfl (Aj (vs:=[_]) (cs:=[_,_]) GC F2 Sx Y V rfl V rfl V)<|AD fun gb=>B5<|Yz 8 254 511 [4,1,0] [false,false,true] [(0,(_,_))] V Y V rfl V rfl (BR (by_:=32) (sz:=2) GC (V:Tryz.prog.info? 50=some Tryz.t50) V rfl V rfl Y (h.win) Y (DC 2 gb 1 1 50 (0,0) [I4 p,.slice q2 cs.length cap2] V) Wo Wo Fl A1 A1) ?_;rintro _ _ ⟨J,Z,rfl⟩;refine ⟨Zk (AZ),?_⟩;obtain ⟨U,K,rfl⟩:=Z.form;refine A2 9 V (Aq Y V)<|A2 10 V (AB (off:=1) F0 V rfl S6 Y)<|Zz (l:=[11])<|B1 [false] [] V rfl (Zs S6 Y Y V (hi:=by(simp;done))) ?_ (fun _ _ h=>h.elim) Ai;rintro _ _ ⟨rfl,rfl⟩;refine B5<|Ah<|Zn [2,3] ?_;refine Zx ?_;have X:=BS Z (n':=(c.win++[(⟨p,q2,cap2,cs⟩:BU)]).length) (xs':=Dr (c.win++[(⟨p,q2,cap2,cs⟩:BU)])) (by rw [B7];rfl) (by rw [KZ];rfl)
 have B:(c.win++[(⟨p,q2,cap2,cs⟩:BU)]).length=c.win.length+1:=by rw [B7];rfl
 refine CK (s1:=s2) (s2:=c.M) Wo Wo ?_;refine Zb [2,3] ?_;refine DK (e0:=[]) (H0:=[[(c.cp,.cells #[I4 p,.slice U (c.win.length+1) K,.pointer (some ⟨c.z.r,0,none⟩),.pointer (some ⟨c.ip,0,none⟩),.map (some c.mi),.map (some c.mkb),I4 c.next] 120 (0,0))],J,(s2++c.M)]) (fun e H=>∃(W:List BU) (wq:Option Addr) (wc:Nat) (sW s0:List A9),(Jk c.win W ⟨p,q2,cap2,cs⟩/\Bb 2 50 (.slice wq W.length wc) W.length (Dr W) sW)/\e=[]/\H=[[(c.cp,.cells #[I4 p,.slice wq W.length wc,.pointer (some ⟨c.z.r,0,none⟩),.pointer (some ⟨c.ip,0,none⟩),.map (some c.mi),.map (some c.mkb),I4 c.next] 120 (0,0))],sW,(s0++(s2++c.M))]) Wp ?hx_6 ?hy_6
 case hx_6=>
  refine A0<|Zl J0 Y ?_;refine Zp Y V<|Zh 1 F0 V rfl S6 Y<|Zl isAgg25 Y ?_;refine Zv (Aa GC Y)<|Zv (DJ (n:=64) Y Y)<|A4<|Au Y (fun h6=>?_) (fun h6=>?_)
  ·
   have l8:EU (J++(s2++c.M)) (.slice U (c.win.length+1) K) (c.win++[(⟨p,q2,cap2,cs⟩:BU)]):=by
    rw [B]at X;rw [<-B];refine Jz (by rw [B];exact X) A1 fun r hr=>?_;rcases BE.1 hr with hr|hr
    · obtain ⟨i,hi⟩:=GW hr
      exact Gy (h.wp i r hi).2.1 s2
    · rw [BT.1 hr];exact Jh gq c.M
   have l9:EU (J++(s2++c.M)) (.slice (ES U 1 K 2) c.win.length (K -1)) ((c.win++[(⟨p,q2,cap2,cs⟩:BU)]).drop 1):=by
    rw [<-B]at l8;have h9:=NT (a:=1) l8 A1
    rwa [B,RM]at h9
   refine CK (s1:=J) (s2:=(s2++c.M)) Wo Wo ?_;refine Az (n:=10) (0::0::2::6::14::30::62::127::255::511::[]) 576 A6 A6 V<|B3 0 V J0 Y ?_;refine B3 1 V J0 Y ?_;refine A2 2 V (Aq Y V)<|A2 3 V (AB (off:=1) F0 V rfl S6 Y)<|B3 4 V isAgg25 Y ?_;refine A2 5 rfl (CB (l:=1) GC F2 Y Y A1)<|Zz (l:=[6])<|B1 [false,false,true] [(0,(_,_))] rfl rfl (Zw [_] Y call53 Y rfl (IB l9 (by rw [C2];omega))) ?_ Bz Ai;rintro _ _ ⟨_,⟨sR,l5,rfl⟩,rfl⟩;refine ⟨Zk (AZ),?_⟩;obtain ⟨gR,cR,rfl⟩:=l5.form;refine A2 7 V (Aq Y V)<|A2 8 V (AB (off:=1) F0 V rfl S6 Y)<|Zz (l:=[9])<|B1 [false] [] V rfl (Zs S6 Y Y V (hi:=by(simp;done))) ?_ (fun _ _ h=>h.elim) Ai;rintro _ _ ⟨rfl,rfl⟩;refine B5<|Ah<|Zn [2,3] ?_;refine BN (e':=[]) (by exact ⟨(c.win++[(⟨p,q2,cap2,cs⟩:BU)]).drop 1,gR,cR,sR,J,⟨.inr ⟨V,by omega⟩,l5⟩,V,V⟩)
  refine AC<|Zn [2,3] ?_;refine BN (e':=[]) (by exact ⟨c.win++[(⟨p,q2,cap2,cs⟩:BU)],U,K,J,[],⟨.inl ⟨rfl,by omega⟩,by rw [B]at X⊢;exact X⟩,rfl,by rw [B]⟩)
 rintro _ _ ⟨W,wq,wc,sW,s0,⟨gy,sO⟩,rfl,rfl⟩;refine A0<|Ze (Al US #[_])<|AD fun bt=>A4<|A0<|Zv (Bg (vs:=[]) (us:=[_,_,_]) Y Y)<|A3 Y<|Zq<|Zq<|Az (n:=8) (0::1::3::7::0::31::63::0::[]) 32 A6 A6 V<|B3 0 V J0 Y ?_;refine A2 1 V (Aq Y V)<|A2 2 V (AB (off:=3) F0 V rfl sizeOf116 Y)<|B3 3 V isAgg116 Y ?_;refine E6 4 V Wh (AA (cs:=#[I4 p,.slice qa cs.length cap]) HW F2 Y Ax (by exact BM V)) ?_;refine A2 7 V (AO Y)<|Zz (l:=[5])<|B1 [false,false,false] [] V rfl (Zw [_,_] Y call56 Y V (eY h.its.idx sJ sw h.its.ist p (MC:=ME) hC A1 ic)) ?_ Bz Ai;rintro _ _ ⟨_,⟨zi,sz,lv2,ML2,o9,x9,Gw,ek,o8,rfl⟩,rfl⟩;refine ⟨AZ,?_⟩;obtain ⟨pk,ck,rfl⟩:=ek.form;simp only [B2];rw [B2]at ek;refine A2 6 V (Aa D0 Y)<|Ah<|Zx<|AQ<|BV<|Zb [68,2,3,6,7,66,67] ?_;refine BB (e0:=[(68,_)]) (fun m e H=>∃(k:Nat) (d:CZ) (tl:List ByteArray) (tv:Value) (st:List A9),m=zi.length -k/\(k<=zi.length/\H6 c d cs p W (s0++(s2++c.M)) (zi.take k) tl/\Row 9 tv (tl.map Value.string) st)/\e=[(68,I4 (k:Int))]/\H=[[(c.cp,.cells d.A33 120 (0,0))],d.sW,d.z.S,[(d.mb,.map d.esP d.ckP)],d.su,[(d.ip,.cells #[.map (some d.mq),d.lv] 186 (0,0))],[(d.mq,.map d.esQ d.ckQ)],d.ML,[(d.mi,.map d.esI d.ckI)],[(d.mkb,.map d.esK d.ckK)],d.SI,d.M,d.MR,[(bt,.cells #[tv] 45 (0,0))],st]) (by exact ⟨0,({c with pos:=p,wq:=wq,wc:=wc,win:=W,sW:=sW,lv:=lv2,ML:=ML2,M:=s0++(s2++c.M)}:CZ),[],.slice none 0 0,[],rfl,⟨C0 _,by rw [Hx];exact uh h.tookb gy sO hp hR (fun q hq=>Fm _ (Fm _ hq)) (Gy (Jh gq c.M) s0) o8,GU _⟩,rfl,rfl⟩) Wp ?_;rintro _ _ _ ⟨k,d,tl,tv,st,rfl,⟨hk,g,hT⟩,rfl,rfl⟩;refine A0<|Zv (Av Y Y)<|A4<|Zq<|Au Y (fun bn=>?_) (fun bn=>?_)
 ·
  obtain ⟨i9,O⟩:∃i,zi[k]?=some i:=⟨_,B4 A1⟩;obtain ⟨y9,wz,cO,zb⟩:=(o9 i9).1 (DE O);obtain ⟨x,hx,rfl⟩:=Bk.1 wz;replace cO:x.id=i9:=cO;subst cO;have kv:x.id∉zi.take k:=Rj x9 O
  have cu:=g.next_it h.tookb hx kv;have j5:=g.okb.its.get cu
  have qz:EG x.id d.lmK=some (.string x.key):=D5 g.okb.its.km.keys ((g.okb.its.kmem _).2 ⟨x,cu,rfl⟩);have ax:(x.b,Obj.cells x.A32 126 (0,0))∈d.SI:=g.okb.its.sub x cu
  have vw:tl.length<=500:=Mb (TH g.t2 fun a ha=>by
   obtain ⟨w,hw,rfl,_⟩:=(g.t1 a).1 ha;exact DO hw) (by rw [B2];exact h.its.len)
  rcases ek with⟨_,h0,_⟩|⟨gk,capk,curk,zk,hvk,rfl,hlek,hcmk,hcsk,htkk,hfrk⟩
  · simp at h0;subst h0;simp at bn
  injection hvk with hv1 hv2 hv3
  subst hv1 hv3;have pz:curk[k]?=some (I4 x.id):=by
   have h:=congrArg (fun l=>l[k]?) htkk;simp only [HA,B2,AM bn,DM,O]at h;simpa using h
  refine AC<|Zx<|Zq<|AQ<|A0<|BX (BQ D0 A5 Y Y (by first|omega|decide|(simp;done)|(simp;omega)))<|Zl AE Y (hv:=by exact pz) ?_;refine A3 Y<|A0<|Zl J0 Y ?_;refine Zp Y V<|Zh 5 F0 V rfl sizeOf91 Y<|Zl isAgg91 Y ?_;refine Zm Y<|Zo Wh (Db (Ca Cp (D:=fun _=>True)) cW HQ g.okb.its.km (fun _ _=>trivial) (trivial) (by rw [qz];first|done|rfl) Y Y) ?_;refine A3 Y<|Zq<|Az (n:=13) (0::1::3::7::0::31::63::127::255::511::0::1024::4095::[]) 0 A6 A6 V<|B3 0 V J0 Y ?_;refine A2 1 V (Aq Y V)<|A2 2 V (AB (off:=4) F0 V rfl O2 Y)<|B3 3 V Mz Y ?_;refine A2 4 rfl (AO Y)<|E6 5 rfl Wh (Db (Dj GF (D:=fun _=>True)) N5 Ss g.okb.its.im (fun _ _=>trivial) (trivial) (by rw [j5];first|done|rfl) Y Y) ?_;refine A2 6 V (Aq Y V)<|A2 7 V (AB (off:=0) HO V rfl Gk Y)<|A2 8 V (Ap (off:=8) Fk V rfl A5 Y)<|D8 (D':=1023) 9 V rfl V (FL Wo (ax)) (BO AE Y AN) ?_;refine A2 10 V (AB (off:=0) GS V rfl A5 Y)<|B3 11 V AE Y ?_;refine A2 12 V (Dt Y Y)<|Ah<|Zn [2,3,6,7,10,66,67,68,90] ?_;refine Zx<|Au Y (fun af=>?_) (fun af=>?_)
  ·
   refine Zg<|Zm Y<|Zm Y<|Zl J0 Y ?_;refine Zp Y V<|Zh 4 F0 V rfl O2 Y<|Zl Mz Y ?_;refine Zm Y<|Zo Wh (Db (Dj GF (D:=fun _=>True)) N5 Ss g.okb.its.im (fun _ _=>trivial) (trivial) (by rw [j5];first|done|rfl) Y Y) ?_;refine Zc [_,_] Y call54 Y V (gX g h hC A1 hx af kv hT A1 bt br bc) ?_;rintro _ _ ⟨_,⟨rfl,d2,yt,y5,gm,pq,rfl⟩,rfl⟩;refine Z0<|A8<|Zx<|Zg<|Ya (n:=1) Y Y<|Zm Y<|Z0<|Zn [68,2,3,6,7,66,67] ?_;refine Ab (e':=[(68,_)]) (by exact ⟨k+1,d2,tl++[x.key],yt,y5,rfl,⟨by omega,by rw [Bn O];exact gm,pq⟩,rfl,rfl⟩)
  refine AC<|A8<|Zx<|Zg<|Ya (n:=1) Y Y<|Zm Y<|Z0<|Zn [68,2,3,6,7,66,67] ?_;refine Ab (e':=[(68,_)]) (by exact ⟨k+1,d,tl,tv,st,rfl,⟨by omega,by rw [Bn O];exact uf g h.tookb hx af,hT⟩,rfl,rfl⟩)
 obtain rfl:k=zi.length:=by omega
 rw [G0]at g;have vw:tl.length<=500:=Mb (TH g.t2 fun a ha=>by
  obtain ⟨w,hw,rfl,_⟩:=(g.t1 a).1 ha;exact DO hw) (by rw [B2];exact h.its.len)
 refine Ay<|Zt<|Zt<|AR<|Zx<|Zq<|Zq ?_;rw [<-g.cp];refine Zg<|Zl J0 Y ?_;refine Zc [_] Y call57 Y V (bZ d) ?_;rintro _ _ ⟨_,⟨bs,rfl,rfl⟩,rfl⟩;refine A4<|AQ<|Zb [2,6,102] ?_;refine Iy (H0:=_) (R:=_) (I:=(fun(pre:List ByteArray) H=>∃d2:CZ,JK d d2 pre/\H=[[(d.cp,.cells d2.A33 120 (0,0))],d2.sW,d2.z.S,[(d2.mb,.map d2.esP d2.ckP)],d2.su,[(d2.ip,.cells #[.map (some d2.mq),d2.lv] 186 (0,0))],[(d2.mq,.map d2.esQ d2.ckQ)],d2.ML,[(d2.mi,.map d2.esI d2.ckI)],[(d2.mkb,.map d2.esK d2.ckK)],d2.SI,d2.M,d2.MR,[(bc,.cells #[.pointer (some ⟨d.cp,0,none⟩)] 37 (0,0))]])) (E:=fun x e Hn=>e=[(11,.string x),(103,.string x)]/\Hn=[]) rfl Y call115 (cB g.okb bs) (fun pre H1 c9 d9 h9=>by obtain ⟨d2,G,rfl⟩:=h9;exact ⟨d2,G.okb,G.like.cp,G.mi,G.like.pos,G.its,by rw [G.like.cp];simp,by simp,fun q hq=>by simp [hq]⟩) Y rfl Wp (⟨d,Ro g.okb,rfl⟩) ?ha_16 ?hbd_16 ?hk_16
 case ha_16=>
  intro _ x _ _;refine Zg<|AG Y<|Ll (e:=[(11,_),(103,_)]) (Hn:=[]) ?_;exact ⟨V,V⟩
 case hbd_16=>
  intro l pre x u e9 zf H1 R1 r9 wo hI p8;obtain ⟨rfl,rfl⟩:=p8;obtain ⟨d2,G,rfl⟩:=hI;obtain ⟨x2,vz,rfl⟩:=bg G g.okb wo;rw [<-G.like.cp];refine AQ<|Zg<|Zl J0 Y ?_;refine Zm Y<|Zc [_,_] Y call26 Y V (XY G.okb vz) ?_;rintro _ _ ⟨_,⟨rfl,d3,q9,j3,qb,qj,_,ql,qo,qw,rfl⟩,rfl⟩;rw [j3.cp];refine Z0<|A8<|F3 V (by exact ⟨d3,Rn G q9 j3 qb qj ql qo qw,V⟩)
 intro D1 ys H2 qx pg;obtain ⟨d2,G,rfl⟩:=pg;rw [<-G.like.cp];refine Zn [6] ?_;refine A8<|Zx<|A0<|Zl Kf Y ?_;refine Zc [_] Y call58 Y V (Rs hT A1) ?_;rintro _ _ ⟨_,⟨zs,s3,rfl,sj,vo,ve,rfl⟩,rfl⟩;refine A4<|A0<|Zl Kf Y ?_;refine Za Y<|A3 Y<|AJ<|GI V (pM results16 Y Y) Wo (by exact ⟨d2,q2,cap2,zs,tv,s3,s0++s2,V,ug h hR hp gy g (fun q hq=>Fm _ (Fm _ hq)) o9 G qx sj vo,G.M.1.trans (g.M.trans (CN _ _ _).symm),ve,V⟩)
theorem ru:GQ [] 0 #[] 0 [] (.pointer none) [] #[] 0 [] #[] 0 [] []:=⟨mD,.inl ⟨rfl,rfl⟩,EQ _,fun p=>by simp,EQ _,fun p=>by simp,ki,fun x g=>by simp at g,by decide,by decide,fun x g=>by simp at g,fun x g=>by simp at g⟩
variable{d:CZ}
theorem uE(h:d.okb)(hi:d.its=[])(pos:Int)(m:0<=pos/\pos<=10000):({d with pos:=pos,wq:=none,wc:=0,win:=[],sW:=[]}:CZ).ok:=
 ⟨⟨m,Bf 2 _,C0 _,fun i r B=>by simp at B,h.pool,h.pk,h.its,h.tns⟩,fun x G=>by have g:x∈d.its:=G;rw [hi]at g;simp at g⟩
theorem CZ.okb.noPL(h:c.okb)(hi:c.its=[]):c.PL=[]:=by
 cases hP:c.PL with
 |nil=>rfl
 |cons e l=>
  have g:=(h.pk e.key).1 (by rw [hP];simp);rw [hi]at g;simp at g
variable{v:Value}
theorem nH{sh:List Int}{K:List A9}(U:Row 3 v (sh.map (Value.int .i64)) K)(pos cap:Int)(O:0<=pos/\pos<=10000)(hc:1<=cap/\cap<=1000000)(W:1<=sh.length/\sh.length<=8)(h0:∀x∈sh,0<=x)(I:sh.sum<=cap):BZ prog 13 #[I4 pos,I4 cap,v] [K] (fun r H'=>∃c:CZ,r= .tuple #[.pointer (some ⟨c.cp,0,none⟩),I4 0]/\c.ok/\(c.its=[]/\c.PL=[]/\c.win=[])/\c.pos=pos/\c.next=0/\c.ns=sh.length/\c.z.cap=cap/\H'=[[(c.cp,.cells c.A33 120 (0,0))],c.sW,c.z.S,[(c.mb,.map c.esP c.ckP)],c.su,[(c.ip,.cells #[.map (some c.mq),c.lv] 186 (0,0))],[(c.mq,.map c.esQ c.ckQ)],c.ML,[(c.mi,.map c.esI c.ckI)],[(c.mkb,.map c.esK c.ckK)],c.SI,c.M,c.MR,K]):=by
 refine Se func13 ntmps13 [0,1,2] ?_;intro u R;refine A0<|Za Y<|A3 Y<|Zq<|A0<|Zm Y<|Xr [_] Y call41 Y V (JE pos) ?_;rw [CM O];refine Zv (Bo Y)<|A4<|AX Y (fun m=>by cases m)<|fun m=>AC<|Zx<|A0<|Zm Y<|Zm Y<|Zc [_,_] Y call42 Y V (lD U cap hc W h0 I) ?_;rintro _ _ ⟨_,⟨z,mb,su,rfl,G,g,rfl⟩,rfl⟩;refine Zm Y<|Zd Y V<|Zd Y V<|Za Y<|AG Y<|Zn [0,8,9] ?_;refine Zx<|Zq<|A0<|Zm Y<|Zv (FR (n:=0) Y Y)<|A4<|Au Y (fun B=>?_) (fun B=>?_)
 ·
  exfalso;exact B rfl
 refine AC<|Zx<|Zq<|BV<|BV<|BV<|BV<|BV<|Zg<|Zm Y<|Zm Y<|Zc [] Y call43 Y V (jV) ?_;rintro _ _ ⟨_,⟨ip,mq,rfl,rfl⟩,rfl⟩;refine Ze (DT)<|AD fun mi=>Ze (DT)<|AD fun mkb=>Zv (BL (vs:=[(0,_),(2,_),(3,_),(4,_),(5,_)]) (cs:=#[_,_,_,_,_,_,_]) Y (AY (pl:=#[(0,1),(1,1),(2,1),(3,1),(4,1),(5,1),(6,1)]) zeroValue120 F0 (fun _=>by kernel_rfl) V))<|Ze (Bx #[_,_,_,_,_,_,_])<|AD fun cp=>Za Y<|A3 Y<|AJ<|Cy V results13 Y Y (by refine ⟨({cp:=cp,pos:=pos,wq:=none,wc:=0,win:=[],sW:=[],z:=z,ns:=sh.length,PL:=[],mb:=mb,esP:=#[],ckP:=0,lmP:=[],su:=su,ip:=ip,mq:=mq,mi:=mi,mkb:=mkb,next:=0,its:=[],esQ:=#[],ckQ:=0,lmQ:=[],lv:= .pointer none,ML:=[],esI:=#[],ckI:=0,lmI:=[],esK:=#[],ckK:=0,lmK:=[],SI:=[],M:=[],MR:=[]}:CZ),V,⟨⟨O,Bf 2 _,by simp,fun i r X=>by simp at X,g,fun k=>by simp,ru,fun x J=>by simp at J⟩,fun x J=>by simp at J⟩,⟨V,V,V⟩,V,V,V,G,V⟩)
theorem uH(pos:Int)(cap:Int)(v:Value)(m:¬(0<=pos/\pos<=10000)):BI prog 13 #[I4 pos,I4 cap,v] [] (.tuple #[.pointer none,I4 180]):=by
 refine Se func13 ntmps13 [0,1,2] ?_;intro u R;refine A0<|Za Y<|A3 Y<|Zq<|A0<|Zm Y<|Xr [_] Y call41 Y V (JE pos) ?_;rw [C4 m];refine Zv (Bo Y)<|A4<|AX Y (fun g=>?_) (fun g=>?_)
 ·
  refine A0<|Za Y<|A3 Y<|AJ<|Zt<|Cy V results13 Y Y (by exact ⟨V,V⟩)
 cases g
theorem dJ(h:c.ok)(pos:Int)(hp:0<=pos/\pos<=10000):BZ prog 28 #[.pointer (some ⟨c.cp,0,none⟩),I4 pos] [[(c.cp,.cells c.A33 120 (0,0))],c.sW,c.z.S,[(c.mb,.map c.esP c.ckP)],c.su,[(c.ip,.cells #[.map (some c.mq),c.lv] 186 (0,0))],[(c.mq,.map c.esQ c.ckQ)],c.ML,[(c.mi,.map c.esI c.ckI)],[(c.mkb,.map c.esK c.ckK)],c.SI,c.M,c.MR] (fun v H'=>v=undef/\∃d:CZ,d.ok/\d.cp=c.cp/\(d.its=[]/\d.PL=[]/\d.win=[])/\d.pos=pos/\d.next=c.next/\d.ns=c.ns/\d.z.cap=c.z.cap/\H'=[[(d.cp,.cells d.A33 120 (0,0))],d.sW,d.z.S,[(d.mb,.map d.esP d.ckP)],d.su,[(d.ip,.cells #[.map (some d.mq),d.lv] 186 (0,0))],[(d.mq,.map d.esQ d.ckQ)],d.ML,[(d.mi,.map d.esI d.ckI)],[(d.mkb,.map d.esK d.ckK)],d.SI,d.M,d.MR]):=by
 refine Se func28 ntmps28 [0,1] ?_;intro u R;refine Zq<|A0<|Zm Y<|Zv (Be N6 Y Y)<|Zm Y<|Ag (t:=8) Y V (fun g1=>by cases g1)<|fun g1=>Zf Y Y<|Xr [_] Y call41 Y V (JE pos) ?_;rw [CM hp];refine Yg (Bo Y)<|Zv (AL Y Y)<|A4<|AX Y (fun K=>by cases K)<|fun K=>AC<|Zx<|Zq<|A0<|Zm Y<|Zc [_] Y call19 Y V (Nv h.tookb) ?_;rintro _ _ ⟨_,⟨zs,sk,B,gq,J,rfl⟩,rfl⟩;have ek:zs.Nodup:=B.nodup_iff.2 h.its.keys
 have d9:=B.length_eq;rw [B2]at d9;have gm:=h.its.len
 obtain ⟨pk,ck,rfl⟩:=J.form;simp only [B2];rw [B2]at J;refine Zv (Aa Cd Y)<|Zm Y<|A4<|AQ<|Zb [16,0,1,14,15] ?_;refine BB (e0:=[(16,_)]) (fun m e H=>∃(i:Nat) (d:CZ),m=zs.length -i/\(i<=zs.length/\JK c d (zs.take i))/\e=[(16,I4 (i:Int))]/\H=[[(c.cp,.cells d.A33 120 (0,0))],d.sW,d.z.S,[(d.mb,.map d.esP d.ckP)],d.su,[(d.ip,.cells #[.map (some d.mq),d.lv] 186 (0,0))],[(d.mq,.map d.esQ d.ckQ)],d.ML,[(d.mi,.map d.esI d.ckI)],[(d.mkb,.map d.esK d.ckK)],d.SI,d.M,d.MR]) (by exact ⟨0,c,rfl,⟨C0 _,by rw [Hx];exact Ro h.tookb⟩,rfl,rfl⟩) Wp ?_;rintro _ _ _ ⟨i,d,rfl,⟨hi,g⟩,rfl,rfl⟩;refine A0<|Zv (Av Y Y)<|A4<|Zq<|Au Y (fun I=>?_) (fun I=>?_)
 ·
  obtain ⟨k,U⟩:∃k,zs[i]?=some k:=⟨_,B4 A1⟩;obtain ⟨x,hx,rfl⟩:=Bk.1 (B.mem_iff.1 (DE U));have cO:x∈d.its:=(g.its x).2 ⟨hx,Rj ek U⟩
  rcases J with⟨_,h0,_⟩|⟨gk,capk,curk,zk,hvk,rfl,hlek,hcmk,hcsk,htkk,hfrk⟩
  · simp at h0;subst h0;simp at I
  injection hvk with hv1 hv2 hv3
  subst hv1 hv3;have W:curk[i]?=some (.string x.key):=by
   have h:=congrArg (fun l=>l[i]?) htkk;simp only [HA,B2,AM I,DM,U]at h;simpa using h
  refine AC<|Zx<|Zq<|AQ<|A0<|BX (BQ Cd F1 Y Y dq)<|Zl HB Y (hv:=by exact W) ?_;refine AG Y<|Zx ?_;rw [<-g.like.cp];refine Zg<|Zm Y<|Zm Y<|Zc [_,_] Y call26 Y V (XY g.okb cO) ?_;rintro _ _ ⟨_,⟨rfl,d3,X,O,Z,af,_,ax,bn,cu,rfl⟩,rfl⟩;rw [O.cp,g.like.cp];refine Z0<|A8<|Zx<|Zg<|Ya (n:=1) Y Y<|Zm Y<|Z0<|Zn [16,0,1,14,15] ?_;refine Ab (e':=[(16,_)]) (by exact ⟨i+1,d3,rfl,⟨by omega,by rw [Bn U];exact Rn g X O Z af ax bn cu⟩,rfl,rfl⟩)
 obtain rfl:i=zs.length:=by omega
 rw [G0]at g;have G:d.its=[]:=pD.2 fun y hy=>by
  obtain ⟨h1,h2⟩:=(g.its y).1 hy;exact h2 (B.mem_iff.2 (DO h1))
 refine Ay<|Zt<|Zt<|AR<|Zx ?_;rw [<-g.like.cp];refine BV<|Zg<|Zm Y<|Zm Y<|Zm Y<|Zp Y V<|Zh 0 F0 V rfl A5 Y<|Xe (Zs A5 Y Y V (hi:=by(simp;done))) ?_;refine Zp Y V<|Zh 1 F0 V rfl S6 Y<|Xe (Zs S6 Y Y V (hi:=by(simp;done))) ?_;refine Z0<|Cz V results28 (by exact ⟨V,({d with pos:=pos,wq:=none,wc:=0,win:=[],sW:=[]}:CZ),uE g.okb G pos hp,V,⟨G,g.okb.noPL G,V⟩,V,g.next,g.like.ns,g.like.cap,V⟩)
theorem ai(h:c.okb)(G:Cr ME (.slice qa cs.length cap) cs)(K:EH p cs)(hp:p≠c.pos+1):BI prog 16 #[.pointer (some ⟨c.cp,0,none⟩),.agg #[I4 p,.slice qa cs.length cap]] [[(c.cp,.cells c.A33 120 (0,0))],ME] (.tuple #[.slice none 0 0,I4 180]):=by
 have U:=mL;obtain ⟨p9,B,I,W,O⟩:=id G;injection I with e91 e92 e93
 subst e91 e93;refine DL func16 V ntmps16 V ?_;intro u R;refine Zb [0,1] ?_;refine A0<|Ze (Bx #[_])<|AD fun X=>Ze (Bx #[I4 p,.slice qa cs.length cap])<|AD fun Z=>Za Y<|A3 Y<|Zq<|AQ<|A0<|Zl J0 Y ?_;refine Zv (Be N6 Y Y)<|A3 Y<|AX Y (fun g=>by cases g)<|fun g=>Zq<|Az (n:=14) (0::1::3::7::15::31::15::79::207::463::975::2047::4095::8191::[]) 2 A6 A6 V<|E6 0 V Wh (AA (cs:=#[I4 p,.slice qa cs.length cap]) HW F2 Y Ax (by exact BM V)) ?_;refine Yw 1 3 V (Zu [_] Y call51 Y V (Pm p qa cap cs ME G)) ?_;rintro _ _ ⟨rfl,rfl⟩;rw [CM K];refine A2 2 V (Bo Y)<|A2 3 V (AO Y)<|Bu (t:=19) Y (fun m=>?_) (fun m=>?_)
 ·
  rw [m];cases m
 rw [m];refine AH 4 V (AB (off:=0) GS V rfl A5 Y)<|DA 5 V Wh (BO AE Y AN) ?_;refine DA 6 V Wh (BO J0 Y AN) ?_;refine AH 7 V (Aq Y V)<|AH 8 V (AB (off:=0) F0 V rfl A5 Y)<|DA 9 V Wh (BO AE Y AN) ?_
 (refine AH 10 rfl (HV Y Y (IntWalk.i64_in _ ?_)) ?_;(focus (have:=h.pos;omega)))
 refine AH 11 V (J9 Y Y)<|A2 12 V (AL Y Y)<|A2 13 V (Aw Y)<|Ah<|Zn [2,3,15] ?_;refine Zx<|Au Y (fun J=>?_) (fun J=>?_)
 ·
  refine A0<|Za Y<|A3 Y<|AJ<|Ae<|Zt<|Oo V (pM results16 Y Y) (by exact ⟨V,V⟩)
 exfalso;omega
theorem EY{P:Program}{f:FuncId}{args:Array Value}{H H1:Hp}{Q m:Value->Hp->Prop}(h:BZ P f args H Q)(R:List A9)(K:H1.flatten.Perm (H.flatten++R))(O:∀v H',Q v H'->∃g,m v g/\g.flatten.Perm (H'.flatten++R)):BZ P f args H1 m:=fun u B w U=>by
 have G:Sat u (H++([R]++B)) w:=U.perm (by
  simp only [GO,C5,FF,DB];rw [<-CN];exact K.append_right _)
 refine (h u ([R]++B) w G).mono ?_;rintro e W (⟨v,H',rfl,h2,h3⟩|⟨_,_,_,h,_⟩)
 · obtain ⟨g,I,J⟩:=O v H' h2
   refine .inl ⟨v,g,V,I,h3.perm ?_⟩;simp only [GO,C5,FF,DB];rw [<-CN];exact J.symm.append_right _
 · exact h.elim
theorem JG{P:Program}{f:FuncId}{args:Array Value}{H H1:Hp}{r:Value}(h:BI P f args H r)(R:List A9)(g:H1.flatten.Perm (H.flatten++R)):BI P f args H1 r:=EY h R g (by
 rintro v H' ⟨rfl,rfl⟩;exact ⟨_,⟨V,V⟩,g⟩)
def CZ.mem(c:CZ):List A9:=([(c.cp,.cells c.A33 120 (0,0))]:List A9)++((c.sW:List A9)++((c.z.S:List A9)++(([(c.mb,.map c.esP c.ckP)]:List A9)++((c.su:List A9)++(([(c.ip,.cells #[.map (some c.mq),c.lv] 186 (0,0))]:List A9)++(([(c.mq,.map c.esQ c.ckQ)]:List A9)++((c.ML:List A9)++(([(c.mi,.map c.esI c.ckI)]:List A9)++(([(c.mkb,.map c.esK c.ckK)]:List A9)++((c.SI:List A9)++((c.M:List A9)++((c.MR:List A9)))))))))))))
theorem Ww(h:c.okb){B:Int}(J:∀e∈c.PL,e.sz<=B):c.z.cap -(c.its.length:Int)*B<=c.z.fr:=by
 have I:∀L:List Bv,(∀e∈L,e.sz<=B)->LF L<=(L.length:Int)*B:=fun L=>by
  induction L with
  |nil=>intro _;simp [LF]
  |cons e l ih=>
   intro G;have h2:=ih fun x K=>G x (EV _ K)
   have g:=G e (Dd ..);have m:LF (e::l)=e.sz+LF l:=by unfold LF;rw [DQ,gi]
   rw [m,DH];push_cast;rw [Int.add_mul];omega
 have h2:(c.PL.map (·.key)).Perm (c.its.map ItM.key):=(OR h.pool.keys h.its.keys).2 h.pk;have g:=h2.length_eq
 rw [B2,B2]at g;have m:=I c.PL J
 rw [g]at m;have O:=h.pool.free
 omega
def p6(c d:CZ)(q:QM)(tn base:Int)(L:List RP)(R:CE×Int×Bool)(b:Bool):Prop:=
 (b=false/\d=c/\¬((c.pos -base).toNat<=c.win.length/\R.2.2=true))\/
 (b=true/\((c.pos -base).toNat<=c.win.length/\R.2.2=true)/\(∀e∈d.PL,e∈c.PL\/e.sz=1+(R.1.rows.length:Int))/\
   ((d=c/\∃x∈c.its,x.key=str (Cv q)/\base<=x.base)\/
    ((∀x∈c.its,x.key=str (Cv q)->x.base<base)/\∃y:ItM,d.its=(c.its.filter fun x=>x.key≠str (Cv q))++[y]/\y.q=q/\y.base=base/\y.L=L/\y.res=R.1/\y.since=R.2.1/\((y.tn=tn/\∀x∈c.its,x.key≠str (Cv q))\/∃x∈c.its,x.key=str (Cv q)/\y.tn=x.tn))))
theorem tM(c:CZ):BI prog 29 #[.pointer (some ⟨c.cp,0,none⟩)] [c.mem] (I4 c.pos):=JG (nD c) ((c.sW:List A9)++(c.z.S:List A9)++([(c.mb,.map c.esP c.ckP)]:List A9)++(c.su:List A9)++([(c.ip,.cells #[.map (some c.mq),c.lv] 186 (0,0))]:List A9)++([(c.mq,.map c.esQ c.ckQ)]:List A9)++(c.ML:List A9)++([(c.mi,.map c.esI c.ckI)]:List A9)++([(c.mkb,.map c.esK c.ckK)]:List A9)++(c.SI:List A9)++(c.M:List A9)++(c.MR:List A9)++[]) (CL fun f g=>by simp only [C5,FF,DB,CZ.mem,CZ.A33,g]<;>omega)
variable{k:Nat}
theorem r8(h:c.okb)(m:k<c.ns):BI prog 30 #[.pointer (some ⟨c.cp,0,none⟩),I4 (k:Int)] [c.mem] (I4 (FU c.PL (k:Int))):=JG (gD h m) ((c.sW:List A9)++([(c.ip,.cells #[.map (some c.mq),c.lv] 186 (0,0))]:List A9)++([(c.mq,.map c.esQ c.ckQ)]:List A9)++(c.ML:List A9)++([(c.mi,.map c.esI c.ckI)]:List A9)++([(c.mkb,.map c.esK c.ckK)]:List A9)++(c.SI:List A9)++(c.M:List A9)++(c.MR:List A9)++[]) (CL fun f g=>by simp only [C5,FF,DB,CZ.mem,CZ.A33,g]<;>omega)
theorem wh(h:c.ok){K:ByteArray}(g:∀y∈c.its,y.key≠K):BI prog 17 #[.pointer (some ⟨c.cp,0,none⟩),.string K] [c.mem] (.tuple #[.agg #[I4 0,I4 0,I4 0,I4 0,I4 0,I4 0,I4 0,.slice none 0 0,I4 0,.bool false,I4 0,I4 0,I4 0,.slice none 0 0,.slice none 0 0],.bool false]):=JG (zN h g) ((c.sW:List A9)++(c.z.S:List A9)++([(c.mb,.map c.esP c.ckP)]:List A9)++(c.su:List A9)++([(c.ip,.cells #[.map (some c.mq),c.lv] 186 (0,0))]:List A9)++([(c.mq,.map c.esQ c.ckQ)]:List A9)++(c.ML:List A9)++([(c.mkb,.map c.esK c.ckK)]:List A9)++(c.SI:List A9)++(c.M:List A9)++(c.MR:List A9)++[]) (CL fun f m=>by simp only [C5,FF,DB,CZ.mem,CZ.A33,m]<;>omega)
variable{x:ItM}
theorem lW(h:c.ok)(B:x∈c.its)(g:c.pos<x.base):BI prog 17 #[.pointer (some ⟨c.cp,0,none⟩),.string x.key] [c.mem] (.tuple #[.agg #[I4 0,I4 0,I4 0,I4 0,I4 0,I4 0,I4 0,.slice none 0 0,I4 0,.bool false,I4 0,I4 0,I4 0,.slice none 0 0,.slice none 0 0],.bool false]):=JG (sZ h B g) ((c.sW:List A9)++(c.z.S:List A9)++([(c.mb,.map c.esP c.ckP)]:List A9)++(c.su:List A9)++([(c.ip,.cells #[.map (some c.mq),c.lv] 186 (0,0))]:List A9)++([(c.mq,.map c.esQ c.ckQ)]:List A9)++(c.ML:List A9)++([(c.mkb,.map c.esK c.ckK)]:List A9)++(c.MR:List A9)++[]) (CL fun f m=>by simp only [C5,FF,DB,CZ.mem,CZ.A33,m]<;>omega)
theorem Oy(h:c.ok)(J:x∈c.its)(I:x.base<=c.pos):BZ prog 17 #[.pointer (some ⟨c.cp,0,none⟩),.string x.key] [c.mem] (fun r H'=>∃(z:KR) (l:List BU) (s:List A9),z.a=⟨x.q,x.res,x.since,c.pos,x.base,x.L,l⟩/\l.map BU.pc=(DI c.pos x.base c.win).map BU.pc/\z.ok s/\r= .tuple #[.agg z.A31,.bool true]/\H'=[c.mem,s]):=EY (zO h J I) ((c.z.S:List A9)++([(c.mb,.map c.esP c.ckP)]:List A9)++(c.su:List A9)++([(c.ip,.cells #[.map (some c.mq),c.lv] 186 (0,0))]:List A9)++([(c.mq,.map c.esQ c.ckQ)]:List A9)++(c.ML:List A9)++([(c.mkb,.map c.esK c.ckK)]:List A9)++(c.MR:List A9)++[]) (CL fun f g=>by simp only [C5,FF,DB,CZ.mem,CZ.A33,g]<;>omega) (by
 rintro r H' ⟨z,l,s,m,h2,B,G,rfl⟩;exact ⟨_,⟨z,l,s,m,h2,B,G,V⟩,CL fun f g=>by simp only [C5,FF,DB,CZ.mem,CZ.A33,g]<;>omega⟩)
theorem yJ(h:c.okb):BZ prog 19 #[.pointer (some ⟨c.cp,0,none⟩)] [c.mem] (fun r H'=>∃(zs:List ByteArray) (s:List A9),zs.Perm (c.its.map ItM.key)/\(zs.Pairwise fun x y=>x.data.toList<=y.data.toList)/\Row 9 r (zs.map Value.string) s/\H'=[c.mem,s]):=EY (Nv h) ((c.sW:List A9)++(c.z.S:List A9)++([(c.mb,.map c.esP c.ckP)]:List A9)++(c.su:List A9)++([(c.ip,.cells #[.map (some c.mq),c.lv] 186 (0,0))]:List A9)++([(c.mq,.map c.esQ c.ckQ)]:List A9)++(c.ML:List A9)++([(c.mkb,.map c.esK c.ckK)]:List A9)++(c.SI:List A9)++(c.M:List A9)++(c.MR:List A9)++[]) (CL fun f g=>by simp only [C5,FF,DB,CZ.mem,CZ.A33,g]<;>omega) (by
 rintro r H' ⟨zs,s,m,h2,B,rfl⟩;exact ⟨_,⟨zs,s,m,h2,B,V⟩,CL fun f g=>by simp only [C5,FF,DB,CZ.mem,CZ.A33,g]<;>omega⟩)
theorem zF(h:c.ok)(pos:Int)(U:0<=pos/\pos<=10000):BZ prog 28 #[.pointer (some ⟨c.cp,0,none⟩),I4 pos] [c.mem] (fun r H'=>r=undef/\∃d:CZ,d.ok/\d.cp=c.cp/\(d.its=[]/\d.PL=[]/\d.win=[])/\d.pos=pos/\d.next=c.next/\d.ns=c.ns/\d.z.cap=c.z.cap/\H'=[d.mem]):=EY (dJ h pos U) [] (CL fun f g=>by simp only [C5,FF,DB,CZ.mem,CZ.A33,g]<;>omega) (by
 rintro r H' ⟨m,d,h2,B,G,I,J,K,O,rfl⟩;exact ⟨_,⟨m,d,h2,B,G,I,J,K,O,V⟩,CL fun f g=>by simp only [C5,FF,DB,CZ.mem,CZ.A33,g]<;>omega⟩)
theorem oS{sh:List Int}{m:List A9}(U:Row 3 v (sh.map (Value.int .i64)) m)(pos cap:Int)(Z:0<=pos/\pos<=10000)(hc:1<=cap/\cap<=1000000)(X:1<=sh.length/\sh.length<=8)(h0:∀x∈sh,0<=x)(g:sh.sum<=cap):BZ prog 13 #[I4 pos,I4 cap,v] [m] (fun r H'=>∃c:CZ,r= .tuple #[.pointer (some ⟨c.cp,0,none⟩),I4 0]/\c.ok/\(c.its=[]/\c.PL=[]/\c.win=[])/\c.pos=pos/\c.next=0/\c.ns=sh.length/\c.z.cap=cap/\H'=[c.mem,m]):=EY (nH U pos cap Z hc X h0 g) [] (B0) (by
 rintro r H' ⟨c,B,h2,G,I,J,K,O,rfl⟩;exact ⟨_,⟨c,B,h2,G,I,J,K,O,V⟩,CL fun f W=>by simp only [C5,FF,DB,CZ.mem,CZ.A33,W]<;>omega⟩)
theorem zH(h:c.ok)(G:Cr ME (.slice qa cs.length cap) cs)(I:EH p cs)(J:p=c.pos+1):BZ prog 16 #[.pointer (some ⟨c.cp,0,none⟩),.agg #[I4 p,.slice qa cs.length cap]] [c.mem,ME] (fun r H'=>∃(d:CZ) (q2:Option Addr) (cap2:Nat) (zs:List ByteArray) (tv:Value) (s:List A9),r= .tuple #[tv,I4 0]/\GX c d p cs q2 cap2 zs/\Row 9 tv (zs.map Value.string) s/\H'=[d.mem,ME,s]):=EY (ah h G I J) [] (CL fun f g=>by simp only [C5,FF,DB,CZ.mem,CZ.A33,g]<;>omega) (by
 rintro r H' ⟨d,q2,cap2,zs,tv,s,K,m,h2,_,B,rfl⟩;exact ⟨_,⟨d,q2,cap2,zs,tv,s,m,h2,B,V⟩,CL fun f g=>by simp only [C5,FF,DB,CZ.mem,CZ.A33,g]<;>omega⟩)
theorem ZG(h:c.okb)(g:Cr ME (.slice qa cs.length cap) cs)(m:EH p cs)(G:p≠c.pos+1):BI prog 16 #[.pointer (some ⟨c.cp,0,none⟩),.agg #[I4 p,.slice qa cs.length cap]] [c.mem,ME] (.tuple #[.slice none 0 0,I4 180]):=JG (ai h g m G) ((c.sW:List A9)++(c.z.S:List A9)++([(c.mb,.map c.esP c.ckP)]:List A9)++(c.su:List A9)++([(c.ip,.cells #[.map (some c.mq),c.lv] 186 (0,0))]:List A9)++([(c.mq,.map c.esQ c.ckQ)]:List A9)++(c.ML:List A9)++([(c.mi,.map c.esI c.ckI)]:List A9)++([(c.mkb,.map c.esK c.ckK)]:List A9)++(c.SI:List A9)++(c.M:List A9)++(c.MR:List A9)++[]) (CL fun f B=>by simp only [C5,FF,DB,CZ.mem,CZ.A33,B]<;>omega)
variable{q:QM}
theorem tI(h:c.ok)(hq:BJ q)(hk:k<c.ns)(J:k<=1000000)(base:Int)(hb:0<=base/\base<=10000){pg:Option Addr}{cg:Nat}{L:List RP}(hL:G8 ME (.slice pg L.length cg) L)(I:L.length<=1000000)(B:∀x∈L,x.fits){r0:CE}(K:EX q L=some r0)(ax:c.next<1000000000)(af:c.its.length<500)(O:(c.pos -base).toNat<=c.win.length->1+((BC q r0 base (DI c.pos base c.win)).1.rows.length:Int)<=c.z.fr)(Tp:TypeId)(zp:Nat×Nat):BZ prog 14 #[.pointer (some ⟨c.cp,0,none⟩),.agg #[I4 q.kd,I4 q.tb,I4 q.cl,I4 q.lo,I4 q.hi,I4 q.bq,I4 q.ot,I4 (k:Int),I4 base,.slice pg L.length cg]] [c.mem,ME,[(1,.cells (Lib.pow10Tab.map fun z=>Value.int .u64 z).toArray Tp zp)]] (fun w H'=>∃(b:Bool) (d:CZ),w= .bool b/\d.ok/\c.like d/\(c.next<=d.next/\d.next<=c.next+1)/\p6 c d q (k:Int) base L (BC q r0 base (DI c.pos base c.win)) b/\H'=[d.mem,ME,[(1,.cells (Lib.pow10Tab.map fun z=>Value.int .u64 z).toArray Tp zp)]]):=by
 have G:c.like c:=⟨rfl,rfl,rfl,rfl,rfl⟩;by_cases g:(c.pos -base).toNat<=c.win.length
 · cases hrun:(BC q r0 base (DI c.pos base c.win)).2.2 with
   |false=>
    refine EY (pu h hq hk J base hb hL I B K g hrun Tp zp) ((c.z.S:List A9)++([(c.mb,.map c.esP c.ckP)]:List A9)++(c.su:List A9)++([(c.ip,.cells #[.map (some c.mq),c.lv] 186 (0,0))]:List A9)++([(c.mq,.map c.esQ c.ckQ)]:List A9)++(c.ML:List A9)++([(c.mi,.map c.esI c.ckI)]:List A9)++([(c.mkb,.map c.esK c.ckK)]:List A9)++(c.SI:List A9)++(c.MR:List A9)++[]) (CL fun f m=>by simp only [C5,FF,DB,CZ.mem,CZ.A33,m]<;>omega) ?_;rintro w H' ⟨rfl,rfl⟩;exact ⟨_,⟨false,c,rfl,h,G,⟨Z1 _,by omega⟩,.inl ⟨rfl,rfl,fun h9=>by rw [hrun]at h9;exact absurd h9.2 AW⟩,rfl⟩,CL fun f m=>by simp only [C5,FF,DB,CZ.mem,CZ.A33,m]<;>omega⟩
   |true=>
    by_cases Z:∃x∈c.its,x.key=str (Cv q)
    · obtain ⟨x,Z,U⟩:=Z
      have cu:∀y∈c.its,y.key=str (Cv q)->y=x:=fun y hy W=>FV h.its.keys hy Z (W.trans U.symm);by_cases bn:base<=x.base
      · refine EY (pY h hq hk J base hb hL I B K g hrun Z U bn Tp zp) ((c.z.S:List A9)++([(c.mb,.map c.esP c.ckP)]:List A9)++(c.su:List A9)++([(c.ip,.cells #[.map (some c.mq),c.lv] 186 (0,0))]:List A9)++([(c.mq,.map c.esQ c.ckQ)]:List A9)++(c.ML:List A9)++([(c.mkb,.map c.esK c.ckK)]:List A9)++(c.MR:List A9)++[]) (CL fun f m=>by simp only [C5,FF,DB,CZ.mem,CZ.A33,m]<;>omega) ?_
        rintro w H' ⟨rfl,rfl⟩;exact ⟨_,⟨true,c,V,h,G,⟨Z1 _,by omega⟩,.inr ⟨V,⟨g,hrun⟩,fun e he=> .inl he,.inl ⟨V,x,Z,U,bn⟩⟩,V⟩,CL fun f m=>by simp only [C5,FF,DB,CZ.mem,CZ.A33,m]<;>omega⟩
      · refine EY (kK h hq hk J base hb hL I B K g hrun ax Z U A1 (O g) Tp zp) [] (CL fun f m=>by simp only [C5,FF,DB,CZ.mem,CZ.A33,m]<;>omega) ?_
        rintro w H' ⟨rfl,d,b,rq,wq,rc,wc,s,h1,h2,h3,_,h5,h6,rfl⟩;exact ⟨_,⟨true,d,rfl,h1,h2,⟨by omega,by omega⟩,.inr ⟨rfl,⟨g,hrun⟩,h6,.inr ⟨fun y hy W=>by rw [cu y hy W];omega,_,h5,rfl,rfl,rfl,rfl,rfl,.inr ⟨x,Z,U,rfl⟩⟩⟩,rfl⟩,CL fun f m=>by simp only [C5,FF,DB,CZ.mem,CZ.A33,m]<;>omega⟩
    · have X:∀y∈c.its,y.key≠str (Cv q):=fun y hy cO=>Z ⟨y,hy,cO⟩
      refine EY (pX h hq hk J base hb hL I B K g hrun ax X af (O g) Tp zp) [] (CL fun f m=>by simp only [C5,FF,DB,CZ.mem,CZ.A33,m]<;>omega) ?_;rintro w H' ⟨rfl,d,b,rq,wq,rc,wc,s,h1,h2,h3,_,h5,h6,rfl⟩;exact ⟨_,⟨true,d,rfl,h1,h2,⟨by omega,by omega⟩,.inr ⟨rfl,⟨g,hrun⟩,h6,.inr ⟨fun y hy W=>absurd W (X y hy),_,by rw [h5,aJ X],rfl,rfl,rfl,rfl,rfl,.inl ⟨rfl,X⟩⟩⟩,rfl⟩,CL fun f m=>by simp only [C5,FF,DB,CZ.mem,CZ.A33,m]<;>omega⟩
 · refine EY (wG h hq hk J base hb hL I B K g Tp zp) ((c.z.S:List A9)++([(c.mb,.map c.esP c.ckP)]:List A9)++(c.su:List A9)++([(c.ip,.cells #[.map (some c.mq),c.lv] 186 (0,0))]:List A9)++([(c.mq,.map c.esQ c.ckQ)]:List A9)++(c.ML:List A9)++([(c.mi,.map c.esI c.ckI)]:List A9)++([(c.mkb,.map c.esK c.ckK)]:List A9)++(c.SI:List A9)++(c.MR:List A9)++[]) (CL fun f m=>by simp only [C5,FF,DB,CZ.mem,CZ.A33,m]<;>omega) ?_
   rintro w H' ⟨rfl,rfl⟩;exact ⟨_,⟨false,c,V,h,G,⟨Z1 _,by omega⟩,.inl ⟨V,V,fun h9=>g h9.1⟩,V⟩,CL fun f m=>by simp only [C5,FF,DB,CZ.mem,CZ.A33,m]<;>omega⟩
noncomputable instance(a b:Io):Decidable (a=b):=Classical.propDecidable _
def Io.ok(h:Io):Prop:=(0<=h.p/\h.p<=10000)/\h.ch.length=32/\h.st.length=32
instance(h:Io):Decidable h.ok:=inferInstanceAs(Decidable (_/\_))
def BU.key(r:BU):Int×List Chg:=(r.p,r.cs)
def uq(h:Io)(r:BU)(st:Bs):Prop:=EH r.p r.cs/\h.ok/\st.length=32/\r.p=h.p+1
noncomputable instance(h:Io)(r:BU)(st:Bs):Decidable (uq h r st):=Classical.propDecidable _
def r3(h:Io)(r:BU)(st:Bs):Io:=⟨r.p,zS h.ch (zR r.p r.cs),st⟩
noncomputable def yB(st:Bs):Io->List BU->Option Io
 |h,[]=>some h
 |h,r::l=>if uq h r st then yB st (r3 h r st) l else none
def bE(a:Io)(l:List BU)(b:Io):Prop:=a.ok/\b.ok/\yB b.st a l=some b
noncomputable instance(a:Io)(l:List BU)(b:Io):Decidable (bE a l b):=Classical.propDecidable _
def bG.eqv(a b:bG):Prop:=a.q=b.q/\a.since=b.since/\a.until_=b.until_/\a.base=b.base/\a.res=b.res/\a.ranges=b.ranges/\a.recs.map BU.key=b.recs.map BU.key
instance(a b:bG):Decidable (a.eqv b):=inferInstanceAs(Decidable (_/\_))
def zn(base until_:Io)(a:bG):Prop:=base.p=a.base/\until_.p=a.until_/\bE base a.recs until_/\(∀x∈a.ranges,p5 base.st x)/\∃b,Jq a.q a.base a.ranges a.recs=some b/\a.eqv b
noncomputable instance(base until_:Io)(a:bG):Decidable (zn base until_ a):=Classical.propDecidable _
def RP.small(x:RP):Prop:=(∀s∈x.roots,s.length<=140737488354000)/\∀l∈x.paths,l.length<=1000000
def putE(n:Int):Int:=if n< -4611686018427387903 then 10 else 0
theorem OC{z:Int}(k:Int)(m:1<=k)(g:-9223372036854775808<=z)(h2:z<=9223372036854775807):-9223372036854775808<=z.tdiv k/\z.tdiv k<=9223372036854775807:=by
 have h:=Int.natAbs_tdiv_le_natAbs z k;rcases Int.lt_or_le z 0 with hz|hz
 · have:z.tdiv k<=0:=by
    obtain ⟨y,rfl⟩:∃y,z=-y:=⟨-z,by omega⟩;rw [Int.neg_tdiv];have:=Int.tdiv_nonneg (a:=y) (b:=k) A1 A1
    omega
   omega
 · have:=Int.tdiv_nonneg hz (show(0:Int)<=k by omega)
   omega
theorem Uq{kd tb cl lo hi bq ot:Int}(h:(0<=tb/\tb<=3)/\(0<=cl/\cl<=3)/\(-1000000000<=lo/\lo<=hi/\hi<=1000000000)/\
 ((kd=1/\cl=0/\lo=hi/\(1<=lo/\lo<=1000000)/\bq=0/\ot=0)\/((kd=2\/kd=3)/\bq=0/\ot=0)\/
  ((kd=4\/kd=5\/kd=6)/\(1<=bq/\bq<=3)/\ot=0)\/(kd=7/\(1<=bq/\bq<=3)/\(0<=ot/\ot<=3)))):BJ ⟨kd,tb,cl,lo,hi,bq,ot⟩:=h
theorem qA(rs:List AU)(c:Chg):(EI rs c).length<=rs.length+1:=by
 unfold EI Na;simp only [B7,C1,C2];split<;>simp only [E7,J1]<;>omega
theorem Sa:∀(cs:List Chg) (rs:List AU),(DN rs cs).length<=rs.length+cs.length
 |[],_=>CD _
 |c::cs,rs=>by
  have g:=Sa cs (EI rs c);have h2:=qA rs c
  rw [DH];exact Mb g A1
variable{l:List BU}
theorem F6.few(h:F6 l):∀i,i<=l.length->(Bd (l.take i)).length<=3*i
 |0,_=>by rw [Hx];exact CD _
 |i+1,hi=>by
  obtain ⟨r,g⟩:∃r,l[i]?=some r:=⟨_,B4 A1⟩;rw [Bn g,Gf];have m:=Sa r.cs (Bd (l.take i))
  have h2:=F6.few h i A1;have B:=(h i r g).2
  omega
variable{M:List A9}
theorem s8{q:Option Addr}(m:EU M (.slice q l.length cap) l)(g:F6 l)(I:l.length<=1000000)(k:Nat)(B:k<=l.length):BZ prog 49 #[.slice q l.length cap,I4 (k:Int)] [M] (fun r H'=>∃v s,r= .tuple #[v,I4 0]/\RG v (k:Int) (Bd (l.take k)) s/\H'=[s,M]):=by
 refine Gv (q7 q cap l M m g I k B) V ?_;rintro r H' ⟨W,U,es,ck,lm,rfl,J,G,rfl⟩;obtain ⟨O,K⟩:=g.rows k B;exact ⟨_,⟨_,_,V,⟨W,U,es,ck,lm,V,J,G,O,K,V⟩,V⟩,by simp⟩
def Og(l:List BU)(a b:Nat):List BU:=(l.drop a).take (b -a)
theorem oW(h:F6 l)(B:l.length<=20)(g:k<=l.length)(q:QM):(CS (Bd (l.take k)) q).length<=100:=by
 have m:=h.few k g;have h2:=(@SQ (Bd (l.take k)) q.tb q.cl.toNat q.lo q.hi).1
 unfold CS;omega
theorem lL(rs:List AU)(q:QM):(Fg rs q).length<=1+(CS rs q).length:=by
 unfold Fg;split
 · rw [DH,B2];omega
 · simp
def GV(x0 x1 x2 x3 x4:Int):QM:=
 if CG x0 7=0 then⟨((1+CG x0 7:Nat):Int),(CG (x0.tdiv 7) 3:Int),0,((1+CG x1 9:Nat):Int),((1+CG x1 9:Nat):Int),0,0⟩
 else⟨((1+CG x0 7:Nat):Int),(CG (x0.tdiv 7) 3:Int),(CG x1 4:Int),(CG x2 12:Int) -3,(CG x2 12:Int) -3+(CG x3 14:Int),if 3<=CG x0 7 then((1+CG x4 3:Nat):Int)else 0,if CG x0 7=6 then(CG (x4.tdiv 3) 3:Int)else 0⟩
theorem dN(g m G I B:Int):BJ (GV g m G I B):=by
 have a0:=EF g 7 AW;have J:=EF (g.tdiv 7) 3 AW
 have K:=EF m 9 AW;have O:=EF m 4 AW
 have U:=EF G 12 AW;have W:=EF I 14 AW
 have X:=EF B 3 AW;have Z:=EF (B.tdiv 3) 3 AW
 unfold GV;split
 · exact Uq A1
 · split<;>split<;>exact Uq A1
theorem Ib(c:Int)(n:Nat)(G:0<n)(m:n<=1000000)(B:-9223372036854775808<=c)(h2:c<=9223372036854775807):BI prog 12 #[I4 c,I4 (n:Int)] [] (I4 (CG c n:Int)):=by
 refine Se func12 ntmps12 [0,1] ?_;intro u R;refine A0<|A3 Y<|Zq<|A0<|Zm Y<|Zv (Dt Y Y)<|A4<|Au Y (fun g=>?_) (fun g=>?_)
 ·
  refine Zg<|Zm Y<|Yi Y Y ?_
  (refine BX (iY Y (IntWalk.i64_in _ ?_)) ?_;(focus (omega)))
  refine A3 Y<|A0<|Zm Y<|Zm Y ?_
  (refine BX (qL Y Y ?_ rfl) ?_;(focus (omega)))
  refine A3 Y<|AJ<|AP rfl results12 Y (by exact ⟨by rw [<-Yd];simp [*],rfl⟩)
 refine AC<|Zx<|A0<|Zm Y<|Zm Y ?_
 (refine BX (qL Y Y ?_ rfl) ?_;(focus (omega)))
 refine A3 Y<|AJ<|AP rfl results12 Y (by exact ⟨by rw [<-Yd];simp [*],rfl⟩)
set_option maxHeartbeats 1000000 in
theorem pW(g G q2 J I:Int)(K:-9223372036854775808<=g)(O:g<=9223372036854775807)(Z:-9223372036854775808<=G)(af:G<=9223372036854775807)(ax:-9223372036854775808<=q2)(bn:q2<=9223372036854775807)(cu:-9223372036854775808<=J)(cO:J<=9223372036854775807)(U:-9223372036854775808<=I)(W:I<=9223372036854775807):BI prog 10 #[.agg #[I4 g,I4 G,I4 q2,I4 J,I4 I]] [] (.agg #[I4 (GV g G q2 J I).kd,I4 (GV g G q2 J I).tb,I4 (GV g G q2 J I).cl,I4 (GV g G q2 J I).lo,I4 (GV g G q2 J I).hi,I4 (GV g G q2 J I).bq,I4 (GV g G q2 J I).ot]):=by
 have B:=OC 7 AW K O;have d9:=EF (g.tdiv 7) 3 AW
 have X:=OC 3 AW U W;have gm:=EF (I.tdiv 3) 3 AW
 have gB:=EF g 7 AW;have ic:=EF G 9 AW
 have ek:=EF G 4 AW;have j3:=EF q2 12 AW
 have j5:=EF J 14 AW;have kv:=EF I 3 AW
 refine Se func10 ntmps10 [0] ?_;intro u R;refine A0<|Ze (Bx #[_,_,_,_,_])<|AD fun bx=>Ze (Al Mu #[_,_,_,_,_,_,_])<|AD fun br=>A4<|Zb [1,2] ?_;refine DK (e0:=[]) (H0:=[]) (fun e H=>∃(bq:Nat),(True)/\e=[(3,I5 bq)]/\H=[[(bq,.cells #[I4 ((1+CG g 7:Nat):Int),I4 (CG (g.tdiv 7) 3:Int),I4 0,I4 0,I4 0,I4 0,I4 0] 28 (0,0))]]) Wp ?hx_1 ?hy_1
 case hx_1=>
  refine Az (n:=11) (0::1::3::7::0::16::48::119::255::0::1023::[]) 1668 A6 A6 V ?_;first|(refine Dp (D':=1) 0 (BH (j:=0) Lo A5 Y Y ?_) ?_;(focus (first|omega|decide|(simp;done))))|(refine Dp (D':=1) 0 (Cq (j:=0) Lo A5 Y Y ?_) ?_;(focus (first|omega|decide|(simp;done))))
  refine B3 1 V AE Y ?_;first|(refine Dp (D':=19) 4 (BH (j:=0) Lo A5 Y Y ?_) ?_;(focus (first|omega|decide|(simp;done))))|(refine Dp (D':=19) 4 (Cq (j:=0) Lo A5 Y Y ?_) ?_;(focus (first|omega|decide|(simp;done))))
  refine B3 5 V AE Y ?_;refine A2 6 V (qM (m:=g) (n:=7) Y Y AW (IntWalk.i64_in _ (by have:=OC 7 AW K O;omega)))<|Zz (l:=[2,9])<|B1 [true,false] [(5,(_,_))] V rfl (Zu [_,_] Y T5 Y V (Ib g 7 AW AW K O)) ?_ (fun _ _ h=>h.elim) ?_
  ·
   rintro _ _ ⟨rfl,rfl⟩;refine ⟨Zk (AZ),?_⟩;first|(refine Dp (D':=127) 3 (Dm (m:=1) Y Y ?_) ?_;(focus (omega)))|(refine Dp (D':=127) 3 (HV Y Y (IntWalk.i64_in _ ?_)) ?_;(focus (omega)))
   refine Zz (l:=[7,9])<|B1 [false] [] V rfl (Zu [_,_] Y T5 Y V (Ib (g.tdiv 7) 3 AW AW B.1 B.2)) ?_ (fun _ _ h=>h.elim) ?_
   ·
    rintro _ _ ⟨rfl,rfl⟩;refine B5<|A2 8 V (BL (vs:=[(0,I4 ((1+CG g 7:Nat):Int)),(1,I4 (CG (g.tdiv 7) 3:Int))]) (cs:=#[I4 ((1+CG g 7:Nat):Int),I4 (CG (g.tdiv 7) 3:Int),I4 0,I4 0,I4 0,I4 0,I4 0]) Y (AY (pl:=#[(0,1),(1,1),(2,1),(3,1),(4,1),(5,1),(6,1)]) Mu CA (fun _=>by kernel_rfl) A6))<|Yw 9 1023 V (Al Mu #[_,_,_,_,_,_,_])<|AD fun bq=>Yw 10 2047 V (Xw CC #[I4 ((1+CG g 7:Nat):Int),I4 (CG (g.tdiv 7) 3:Int),I4 0,I4 0,I4 0,I4 0,I4 0])<|CT<|Ah<|Zn [3,1,2] ?_;refine BN (e':=[(3,_)]) (by exact ⟨bq,trivial,V,V⟩)
   refine B1 [true] [(5,(_,_))] V rfl (Al Mu #[_,_,_,_,_,_,_]) ?_ (fun _ _ h=>h.elim) Ai;rintro _ _ ⟨bq,rfl,rfl⟩;refine B5<|Yw 7 767 V (Zu [_,_] Y T5 Y V (Ib (g.tdiv 7) 3 AW AW B.1 B.2))<|CT<|A2 8 V (BL (vs:=[(0,I4 ((1+CG g 7:Nat):Int)),(1,I4 (CG (g.tdiv 7) 3:Int))]) (cs:=#[I4 ((1+CG g 7:Nat):Int),I4 (CG (g.tdiv 7) 3:Int),I4 0,I4 0,I4 0,I4 0,I4 0]) Y (AY (pl:=#[(0,1),(1,1),(2,1),(3,1),(4,1),(5,1),(6,1)]) Mu CA (fun _=>by kernel_rfl) A6))<|Yw 10 2047 V (Xw CC #[I4 ((1+CG g 7:Nat):Int),I4 (CG (g.tdiv 7) 3:Int),I4 0,I4 0,I4 0,I4 0,I4 0])<|CT<|Ah<|Zn [3,1,2] ?_;refine BN (e':=[(3,_)]) (by exact ⟨bq,trivial,V,V⟩)
  refine B1 [true,true] [(5,(_,_)),(1,(_,_))] V rfl (Al Mu #[_,_,_,_,_,_,_]) ?_ (fun _ _ h=>h.elim) Ai;rintro _ _ ⟨bq,rfl,rfl⟩;refine B5<|Yz 2 3 631 [5,1] [true,false] [(5,(_,_))] V Y V rfl V rfl (Zu [_,_] Y T5 Y V (Ib g 7 AW AW K O)) ?_;rintro _ _ ⟨rfl,rfl⟩;refine ⟨Zk (AZ),?_⟩;first|(refine Dp (D':=639) 3 (Dm (m:=1) Y Y ?_) ?_;(focus (omega)))|(refine Dp (D':=639) 3 (HV Y Y (IntWalk.i64_in _ ?_)) ?_;(focus (omega)))
  refine Yw 7 767 V (Zu [_,_] Y T5 Y V (Ib (g.tdiv 7) 3 AW AW B.1 B.2))<|CT<|A2 8 V (BL (vs:=[(0,I4 ((1+CG g 7:Nat):Int)),(1,I4 (CG (g.tdiv 7) 3:Int))]) (cs:=#[I4 ((1+CG g 7:Nat):Int),I4 (CG (g.tdiv 7) 3:Int),I4 0,I4 0,I4 0,I4 0,I4 0]) Y (AY (pl:=#[(0,1),(1,1),(2,1),(3,1),(4,1),(5,1),(6,1)]) Mu CA (fun _=>by kernel_rfl) A6))<|Yw 10 2047 V (Xw CC #[I4 ((1+CG g 7:Nat):Int),I4 (CG (g.tdiv 7) 3:Int),I4 0,I4 0,I4 0,I4 0,I4 0])<|CT<|Ah<|Zn [3,1,2] ?_;refine BN (e':=[(3,_)]) (by exact ⟨bq,trivial,V,V⟩)
 rintro _ _ ⟨bq,_,rfl,rfl⟩;refine Zq<|A0<|Zh 0 CA V rfl A5 Y<|Zl AE Y ?_;first|refine BX (CR (n:=1) Y Y) ?_|refine BX (CP Y Y) ?_
 refine Z0<|Zx ?_;first|refine Au Y (fun k1=>?_) (fun k1=>?_)|refine AX Y (fun k1=>?_) (fun k1=>?_)
 ·
  refine Zq<|Zg ?_;first|(refine BX (BH (j:=1) Lo A5 Y Y ?_) ?_;(focus (first|omega|decide|(simp;done))))|(refine BX (Cq (j:=1) Lo A5 Y Y ?_) ?_;(focus (first|omega|decide|(simp;done))))
  refine Zl AE Y ?_;refine Xr [_,_] Y T5 Y V (Ib G 9 AW AW Z af) ?_;first|(refine BX (Dm (m:=1) Y Y ?_) ?_;(focus (omega)))|(refine BX (HV Y Y (IntWalk.i64_in _ ?_)) ?_;(focus (omega)))
  refine Zh 3 CA rfl rfl A5 Y<|Xe (Zs A5 Y Y rfl (hi:=by first|omega|decide|(simp;done))) ?_;refine A4<|A0<|Zh 3 CA V rfl A5 Y<|Zl AE Y ?_;refine Zh 4 CA rfl rfl A5 Y<|Xe (Zs A5 Y Y rfl (hi:=by first|omega|decide|(simp;done))) ?_;refine Z0<|Zn [2,3] ?_;refine Zx<|A0<|Zo Wh (AA (cs:=#[_,_,_,_,_,_,_]) E4 CC Y Wb (by exact BM V)) ?_;refine Xe (BK CC Y Y nw Wu (by exact Du rfl) E3 Wb (by exact BA _)) ?_;refine A4<|AJ<|Zt<|Cw V results10 Y Wh (Ak E4 CC Wn (BM V)) (by
   refine ⟨?_,V⟩;unfold GV;rw [AM A1]<;>rfl)
 refine AC<|Zx<|Zq<|Zg ?_;first|(refine BX (BH (j:=1) Lo A5 Y Y ?_) ?_;(focus (first|omega|decide|(simp;done))))|(refine BX (Cq (j:=1) Lo A5 Y Y ?_) ?_;(focus (first|omega|decide|(simp;done))))
 refine Zl AE Y ?_;refine Xr [_,_] Y T5 Y V (Ib G 4 AW AW Z af) ?_;refine Zh 2 CA rfl rfl A5 Y<|Xe (Zs A5 Y Y rfl (hi:=by first|omega|decide|(simp;done))) ?_;refine A4<|Zq<|Zg ?_;first|(refine BX (BH (j:=2) Lo A5 Y Y ?_) ?_;(focus (first|omega|decide|(simp;done))))|(refine BX (Cq (j:=2) Lo A5 Y Y ?_) ?_;(focus (first|omega|decide|(simp;done))))
 refine Zl AE Y ?_;refine Xr [_,_] Y T5 Y V (Ib q2 12 AW AW ax bn) ?_;first|(refine BX (CO (n:=3) Y Y ?_ ?_) ?_;(focus (omega));(focus (omega)))|(refine BX (GG Y Y (IntWalk.i64_in _ ?_)) ?_;(focus (omega)))
 refine Zh 3 CA rfl rfl A5 Y<|Xe (Zs A5 Y Y rfl (hi:=by first|omega|decide|(simp;done))) ?_;refine Z0<|Zn [1,2,3] ?_;refine Zx<|Zq<|Az (n:=8) (0::1::0::4::12::31::63::127::[]) 144 A6 A6 V<|A2 0 V (AB (off:=3) CA V rfl A5 Y)<|B3 1 V AE Y ?_;first|(refine Dp (D':=7) 2 (BH (j:=3) Lo A5 Y Y ?_) ?_;(focus (first|omega|decide|(simp;done))))|(refine Dp (D':=7) 2 (Cq (j:=3) Lo A5 Y Y ?_) ?_;(focus (first|omega|decide|(simp;done))))
 refine B3 3 V AE Y ?_;refine Yz 4 12 31 [3,1] [false,true] [(1,(_,_))] V Y V rfl V rfl (Zu [_,_] Y T5 Y V (Ib J 14 AW AW cu cO)) ?_;rintro _ _ ⟨rfl,rfl⟩;refine ⟨Zk (AZ),?_⟩;first|(refine Dp (D':=63) 5 (Dm Y Y ?_) ?_;(focus (omega)))|(refine Dp (D':=63) 5 (HV Y Y (IntWalk.i64_in _ ?_)) ?_;(focus (omega)))
 refine A2 6 rfl (AB (off:=4) CA rfl rfl A5 Y)<|Zz (l:=[7])<|B1 [false] [] rfl rfl (Zs A5 Y Y rfl (hi:=by first|omega|decide|(simp;done))) ?_ (fun _ _ h=>h.elim) Ai;rintro _ _ ⟨rfl,rfl⟩;refine B5<|Ah<|Zx<|Zb [1,2,3] ?_;refine DK (e0:=[]) (H0:=[[(bq,.cells #[I4 ((1+CG g 7:Nat):Int),I4 (CG (g.tdiv 7) 3:Int),I4 (CG G 4:Int),I4 ((CG q2 12:Int) -3),I4 ((CG q2 12:Int) -3+(CG J 14:Int)),I4 0,I4 0] 28 (0,0))]]) (fun e H=>∃(w5:Int),(w5=if 3<=CG g 7 then((1+CG I 3:Nat):Int)else 0)/\e=[]/\H=[[(bq,.cells #[I4 ((1+CG g 7:Nat):Int),I4 (CG (g.tdiv 7) 3:Int),I4 (CG G 4:Int),I4 ((CG q2 12:Int) -3),I4 ((CG q2 12:Int) -3+(CG J 14:Int)),I4 w5,I4 0] 28 (0,0))]]) Wp ?hx_19 ?hy_19
 case hx_19=>
  refine A0<|Zh 0 CA V rfl A5 Y<|Zl AE Y ?_;first|refine BX (Fw (n:=4) Y Y) ?_|refine BX (H9 Y Y) ?_
  refine Z0<|Zx ?_;first|refine Au Y (fun k2=>?_) (fun k2=>?_)|refine AX Y (fun k2=>?_) (fun k2=>?_)
  ·
   refine Zg ?_;first|(refine BX (BH (j:=4) Lo A5 Y Y ?_) ?_;(focus (first|omega|decide|(simp;done))))|(refine BX (Cq (j:=4) Lo A5 Y Y ?_) ?_;(focus (first|omega|decide|(simp;done))))
   refine Zl AE Y ?_;refine Xr [_,_] Y T5 Y V (Ib I 3 AW AW U W) ?_;first|(refine BX (Dm (m:=1) Y Y ?_) ?_;(focus (omega)))|(refine BX (HV Y Y (IntWalk.i64_in _ ?_)) ?_;(focus (omega)))
   refine Zh 5 CA rfl rfl A5 Y<|Xe (Zs A5 Y Y rfl (hi:=by first|omega|decide|(simp;done))) ?_;refine Z0<|Zn [1,2,3] ?_;refine BN (e':=[]) (by first|exact ⟨_,(AM A1).symm,rfl,rfl⟩|exact ⟨0,(AK A1).symm,rfl,rfl⟩)
  refine AC<|Zn [1,2,3] ?_;refine BN (e':=[]) (by first|exact ⟨_,(AM A1).symm,rfl,rfl⟩|exact ⟨0,(AK A1).symm,rfl,rfl⟩)
 rintro _ _ ⟨w5,gq,rfl,rfl⟩;refine Zb [1,2,3] ?_;refine DK (e0:=[(1,_)]) (H0:=[[(bq,.cells #[I4 ((1+CG g 7:Nat):Int),I4 (CG (g.tdiv 7) 3:Int),I4 (CG G 4:Int),I4 ((CG q2 12:Int) -3),I4 ((CG q2 12:Int) -3+(CG J 14:Int)),I4 w5,I4 0] 28 (0,0))]]) (fun e H=>∃(w6:Int),(w6=if CG g 7=6 then(CG (I.tdiv 3) 3:Int)else 0)/\e=[]/\H=[[(bq,.cells #[I4 ((1+CG g 7:Nat):Int),I4 (CG (g.tdiv 7) 3:Int),I4 (CG G 4:Int),I4 ((CG q2 12:Int) -3),I4 ((CG q2 12:Int) -3+(CG J 14:Int)),I4 w5,I4 w6] 28 (0,0))]]) Wp ?hx_22 ?hy_22
 case hx_22=>
  refine A0<|Zh 0 CA V rfl A5 Y<|Zl AE Y ?_;first|refine BX (CR (n:=7) Y Y) ?_|refine BX (CP Y Y) ?_
  refine Z0<|Zx ?_;first|refine Au Y (fun k3=>?_) (fun k3=>?_)|refine AX Y (fun k3=>?_) (fun k3=>?_)
  ·
   refine Zg ?_;first|(refine BX (BH (j:=4) Lo A5 Y Y ?_) ?_;(focus (first|omega|decide|(simp;done))))|(refine BX (Cq (j:=4) Lo A5 Y Y ?_) ?_;(focus (first|omega|decide|(simp;done))))
   refine Zl AE Y ?_;refine Zv (qM (m:=I) (n:=3) Y Y AW (IntWalk.i64_in _ (by have:=OC 3 AW U W;omega)))<|Xr [_,_] Y T5 Y V (Ib (I.tdiv 3) 3 AW AW X.1 X.2) ?_;refine Zh 6 CA rfl rfl A5 Y<|Xe (Zs A5 Y Y rfl (hi:=by first|omega|decide|(simp;done))) ?_;refine Z0<|Zn [2,3] ?_;refine BN (e':=[]) (by first|exact ⟨_,(AM A1).symm,rfl,rfl⟩|exact ⟨0,(AK A1).symm,rfl,rfl⟩)
  refine AC<|Zn [2,3] ?_;refine BN (e':=[]) (by first|exact ⟨_,(AM A1).symm,rfl,rfl⟩|exact ⟨0,(AK A1).symm,rfl,rfl⟩)
 rintro _ _ ⟨w6,gy,rfl,rfl⟩;refine A0<|Zo Wh (AA (cs:=#[_,_,_,_,_,_,_]) E4 CC Y Wb (by exact BM V)) ?_;refine Xe (BK CC Y Y nw Wu (by exact Du rfl) E3 Wb (by exact BA _)) ?_;refine A4<|AJ<|Cw V results10 Y Wh (Ak E4 CC Wn (BM V)) (by
  refine ⟨?_,V⟩;unfold GV;rw [AK A1,<-gq,<-gy]<;>rfl)
set_option maxHeartbeats 1000000 in
theorem XW{p:Option Addr}(J:EU M (.slice p l.length cap) l)(g:F6 l)(U:l.length<=1000000)(a:Nat)(O:a<=l.length)(hq:BJ q)(B:(CS (Bd (l.take a)) q).length<=100)(te:Int)(K:TypeId)(X:Nat×Nat):BZ prog 15 #[.slice p l.length cap,I4 (a:Int),.agg q.A30,I4 te] [[(4,.cells (Eo.map Ct).toArray K X)],M] (fun w H'=>∃(mem:List A9) (I:Option Addr) (G:Nat),G8 mem (.slice I (Fg (Bd (l.take a)) q).length G) (Fg (Bd (l.take a)) q)/\w= .agg #[I4 q.kd,I4 q.tb,I4 q.cl,I4 q.lo,I4 q.hi,I4 q.bq,I4 q.ot,I4 te,I4 (a:Int),.slice I (Fg (Bd (l.take a)) q).length G]/\H'=[mem,[(4,.cells (Eo.map Ct).toArray K X)],M]):=by
 have cO:=mL;obtain ⟨p9,Z,e9,⟨bn,cu⟩,_⟩:=id J;injection e9 with e91 e92 e93
 subst e91 e93;obtain ⟨hs,hn⟩:=g.rows a O;have W:=g.rowsOk a O
 obtain ⟨L,hL⟩:∃L,L=Fg (Bd (l.take a)) q:=⟨_,rfl⟩;rw [<-hL];refine Se func15 ntmps15 [0,1,2,3] ?_;intro u R;refine A0<|Ze (Bx q.A30)<|AD fun bq=>Ze (EW ZD (cs:=#[I4 0,I4 0,I4 0,I4 0,I4 0,I4 0,I4 0,I4 0,I4 0,.slice none 0 0]) A6)<|AD fun be=>A4<|A0<|Zm Y<|Zm Y<|Zc [_,_] Y call49 Y V (s8 J g U a O) ?_;rintro _ _ ⟨_,⟨vs,ss,rfl,hS,rfl⟩,rfl⟩;refine Zm Y<|Zd Y V<|Zd Y V<|Za Y<|A3 Y<|A0<|Zm Y<|Zo Wh (AA (cs:=#[_,_,_,_,_,_,_]) E4 CC Y Ax (by exact BM V)) ?_;refine Zc [_,_] Y call50 Y V (zB _ _ _ _ hS hs hn W q hq B K X) ?_;rintro _ _ ⟨_,⟨vo,mem,rfl,m,rfl⟩,rfl⟩;rw [<-hL]at m;obtain ⟨I,G,rfl,af,ax⟩:=m.form;refine Zm Y<|Zd Y V<|Zd Y V<|Za Y<|AG Y<|Zn [1,3,6,8,11] ?_;refine Zx<|A0<|Zo Wh (AA (cs:=#[_,_,_,_,_,_,_]) E4 CC Y Ax (by exact BM V)) ?_;refine Zm Y<|Zm Y<|Zm Y<|Zv (BL (vs:=[(0,.agg q.A30),(1,I4 te),(2,I4 (a:Int)),(3,.slice I L.length G)]) (cs:=#[I4 q.kd,I4 q.tb,I4 q.cl,I4 q.lo,I4 q.hi,I4 q.bq,I4 q.ot,I4 te,I4 (a:Int),.slice I L.length G]) Y (AY (pl:=#[(0,7),(7,1),(8,1),(9,1)]) ZD Fk (fun _=>by kernel_rfl) A6))<|Xe (BK Gk Y Y HJ Wu (by exact Du rfl) E3 AW (by exact BA _)) ?_;refine A4<|AJ<|Cw V results15 Y Wh (Ak SJ Gk Wn (BM V)) (by exact ⟨mem,I,G,m,V,V⟩)
def exQ:QM:=⟨3,0,1,10,19,0,0⟩
theorem Tu:BJ exQ:=by decide
variable{rs:List AU}
theorem Sb(g:BP rs)(m:rs.length<=2000)(t c:Nat)(lo hi:Int):(El rs t c lo hi).fits:=by
 have B:=JB g (t:Int) c;refine ⟨?_,?_,?_,YY g m t c lo hi⟩
 · show(List.take _ (List.drop _ (BG rs (t:Int) c))).length<=_
   rw [C1,C2];omega
 · show(J8 _ _ _).length<=_
   have h2:toT (BG rs (t:Int) c) c hi<=(BG rs (t:Int) c).length:=nj _ _;unfold J8;rw [B2,ar];omega
 · show(bV rs).length<=_
   unfold bV;rw [B2];decide
theorem eZ(B:BP rs)(m:rs.length<=2000)(q:QM):∀x∈Fg rs q,x.fits:=fun x g=>by
 unfold Fg at g;rcases D2.1 g with rfl|g
 · exact Sb B m _ _ _ _
 · split at g
   · obtain ⟨r,_,rfl⟩:=Bk.1 g
     exact Sb B m _ _ _ _
   · cases g
structure O3(l:List BU):Prop where
 ok:F6 l
 len:l.length<=1000
 scan:∀a,a<=l.length->∀q,(CS (Bd (l.take a)) q).length<=100
theorem F6.toB(h:F6 l)(m:l.length<=20):O3 l:=⟨h,by omega,fun a g q=>oW h m g q⟩
variable{a:Nat}
theorem O3.start(h:O3 l)(g:a<=l.length)(m:BJ q):EX q (Fg (Bd (l.take a)) q)=some (Cj (Bd (l.take a)) q):=bY (h.ok.rows a g).1 (h.ok.rows a g).2 (h.ok.rowsOk a g) m (h.scan a g q)
theorem O3.make_len(h:O3 l)(g:a<=l.length)(q:QM):(Fg (Bd (l.take a)) q).length<=101:=by
 have m:=lL (Bd (l.take a)) q;have h2:=h.scan a g q
 omega
theorem O3.fits(h:O3 l)(g:a<=l.length)(q:QM):∀x∈Fg (Bd (l.take a)) q,x.fits:=eZ (h.ok.rows a g).1 (h.ok.rows a g).2 q
def nW(l:List BU)(P:Nat)(win:List BU):Prop:=win.length<=P/\win.map BU.pc=((l.take P).drop (P -win.length)).map BU.pc
theorem Ra(l:List BU)(P:Nat):nW l P []:=⟨C0 _,by
 rw [List.drop_eq_nil_of_le (by simp only [C1,J1];omega)]⟩
variable{P:Nat}{r:BU}
theorem jZ{W W':List BU}{x:BU}(h:nW l P W)(m:l[P]?=some x)(g:r.pc=x.pc)(B:Jk W W' r):nW l (P+1) W':=by
 obtain ⟨K,h2⟩:=h;have I:=(B9.1 m).1
 have J:(l.take P).length=P:=by rw [C1];omega
 unfold nW;rw [Bn m];rcases B with⟨rfl,G⟩|⟨rfl,G⟩
 · rw [B7,E7,show P+1 -(W.length+1)=P -W.length by omega,fg A1,Bm,Bm,h2,Lk,Lk,g]
   exact ⟨by omega,V⟩
 · have e:((W++[r]).drop 1).length=64:=by rw [C2,B7,E7];omega
   have e1:(W++[r]).drop 1=W.drop 1++[r]:=fg A1;have e2:(l.take P++[x]).drop (P+1 -64)=(l.take P).drop (P+1 -64)++[x]:=fg A1
   rw [e,e1,e2,Bm,Bm,gn,h2,<-gn,Ys,show P -W.length+1=P+1 -64 by omega,Lk,Lk,g];exact ⟨by omega,V⟩
theorem PY{win:List BU}(h:nW l P win)(m:a<=P)(B:P -a<=win.length):(DI (P:Int) (a:Int) win).map BU.pc=(Og l a P).map BU.pc:=by
 obtain ⟨g,h2⟩:=h;unfold DI Og;rw [show((P:Int) -(a:Int)).toNat=P -a by omega,gn,h2,<-gn,Ys,show P -win.length+(win.length -(P -a))=a by omega,eJ]
structure Gh(l:List BU)(P:Nat)(c:CZ):Prop where
 ok:c.ok
 pos:c.pos=(P:Int)
 le:P<=l.length
 win:nW l P c.win
 src:∀x∈c.its,∃a:Nat,x.base=(a:Int)/\a<=l.length/\x.L=Fg (Bd (l.take a)) x.q
theorem Gh.at{l:List BU}(K:O3 l){P:Nat}{c:CZ}(h:Gh l P c){x:ItM}(U:x∈c.its):∃a:Nat,x.base=(a:Int)/\a<=l.length/\x.L=Fg (Bd (l.take a)) x.q/\(a<=P->P -a<=c.win.length/\x.res=Cj (Bd (l.take P)) x.q/\um x.q l a (P -a) x.since/\GD x.q (a:Int) 0 (Cj (Bd (l.take a)) x.q,(a:Int)) (Og l a P)=some (x.res,x.since))/\(P<=a->x.res=Cj (Bd (l.take a)) x.q/\x.since=(a:Int)):=by
 obtain ⟨a,I,h2,J⟩:=h.src x U;have B:=h.ok.all x U
 obtain ⟨X,m,g⟩:=B.run;rw [J,K.start h2 B.q]at m;injection m with m
 subst m;have G:=B.reach
 rw [h.pos,I]at g G;refine ⟨a,I,h2,J,fun O=>?_,fun O=>?_⟩
 · have e:=PY h.win O A1
   rw [OU e]at g;have W:=h.le
   obtain ⟨e1,e2⟩:=Po B.q K.ok h2 (P -a) A1 _ g;rw [show a+(P -a)=P by omega]at e1;exact ⟨by omega,e1,e2,g⟩
 · rw [LH A1]at g
   injection g with g
   exact ⟨(congrArg Prod.fst g).symm,(congrArg Prod.snd g).symm⟩
variable{b:Bool}
theorem Gh.put(h:Gh l P c)(I:d.ok)(g:c.like d){tn:Int}(G:a<=l.length){R:CE×Int×Bool}(B:p6 c d q tn (a:Int) (Fg (Bd (l.take a)) q) R b):Gh l P d:=by
 refine ⟨I,g.pos.trans h.pos,h.le,by rw [g.win];exact h.win,fun x m=>?_⟩;rcases B with⟨_,rfl,_⟩|⟨_,_,_,⟨rfl,_⟩|⟨_,y,e,e1,e2,e3,_⟩⟩
 · exact h.src x m
 · exact h.src x m
 · rw [e]at m
   rcases BE.1 m with m|m
   · exact h.src x (Ek.1 m).1
   · rw [BT.1 m,e1,e2,e3];exact ⟨a,rfl,G,rfl⟩
variable{q2:Option Addr}{cap2:Nat}{zs:List ByteArray}
theorem Gh.apply(I:O3 l)(h:Gh l P c)(m:l[P]?=some r)(g:GX c d r.p r.cs q2 cap2 zs):Gh l (P+1) d:=by
 have J:=(B9.1 m).1;have B:=(I.ok P r m).1.pos
 refine ⟨g.ok,by rw [g.pos,B];push_cast;rfl,by omega,jZ (r:=⟨r.p,q2,cap2,r.cs⟩) h.win m rfl g.win,fun y O=>?_⟩;obtain ⟨_,x,K,hc,_⟩:=g.i1 y O;obtain ⟨_,_,e1,_,e2,_,_,G⟩:=Gx hc;rw [e1,e2,G];exact h.src x K
theorem Gh.next(m:O3 l)(h:Gh l P c)(B:l[P]?=some r):EH r.p r.cs/\r.p=c.pos+1:=by
 have g:=(m.ok P r B).1;exact ⟨g.ok,by rw [g.pos,h.pos]⟩
theorem Gh.part(h:Gh l P c)(m:d.ok)(g:c.like d)(B:∀x∈d.its,x∈c.its):Gh l P d:=⟨m,g.pos.trans h.pos,h.le,by rw [g.win];exact h.win,fun x G=>h.src x (B x G)⟩
theorem aN(lt:Int->Int->Bool):∀(ms:List Int) (r:CE),(ms.foldl (fun r n=>(⟨r.rows,if !r.fnd||lt n r.val then n else r.val,true⟩:CE)) r).rows=r.rows
 |[],_=>rfl
 |n::ms,r=>by rw [TO,aN lt ms]
theorem mo(rs:List AU)(q:QM):(Cj rs q).rows.length<=2*(CS rs q).length:=by
 have m:=TP q (CS rs q) (IK rs q.ot);have g:∀lt ms,(ER lt ms).rows=[]:=fun lt ms=>aN lt ms CE.none
 unfold Cj FN;split
 · exact C0 _
 · split
   · exact C0 _
   · split
     · rw [g];exact C0 _
     · split
       · rw [g];exact C0 _
       · split
         · exact m
         · show(CS rs q).length<=_;omega
variable{n:Nat}
theorem YV(K:O3 l)(h:Gh l P c)(U:BJ q)(G:a<=l.length)(I:∀b,b<=l.length->(Cj (Bd (l.take b)) q).rows.length<=n)(B:(c.pos -(a:Int)).toNat<=c.win.length):(BC q (Cj (Bd (l.take a)) q) (a:Int) (DI c.pos (a:Int) c.win)).1.rows.length<=n:=by
 cases hr:(BC q (Cj (Bd (l.take a)) q) (a:Int) (DI c.pos (a:Int) c.win)).2.2 with
 |false=>
  have g:BC q (Cj (Bd (l.take a)) q) (a:Int) (DI c.pos (a:Int) c.win)=(CE.none,0,false):=by
   unfold BC at hr⊢;split at hr
   · cases hr
   · rfl
  rw [g];exact C0 _
 |true=>
  have g:=Lc hr;rw [h.pos]at g B⊢;by_cases m:a<=P
  · rw [OU (PY h.win m A1)]at g
    have O:=h.le;have h2:=(Po U K.ok G (P -a) A1 _ g).1
    have J:(BC q (Cj (Bd (l.take a)) q) (a:Int) (DI (P:Int) (a:Int) c.win)).1=_:=h2;rw [J];exact I _ A1
  · rw [LH A1]
    exact I a G
def bD(l:List BU)(P:Nat)(c:CZ)(q:QM)(a:Nat):Prop:=P -a<=c.win.length/\∃st,GD q (a:Int) 0 (Cj (Bd (l.take a)) q,(a:Int)) (Og l a P)=some st
theorem VH(h:P<=a):bD l P c q a:=⟨by omega,(Cj (Bd (l.take a)) q,(a:Int)),by
 rw [show Og l a P=[] by unfold Og;rw [show P -a=0 by omega,Hx]];rfl⟩
def ng(l:List BU)(P:Nat)(c d:CZ)(q:QM)(tn:Int)(a:Nat)(n:Nat)(b:Bool):Prop:=
 (b=false/\d=c/\¬bD l P c q a)\/
 (b=true/\bD l P c q a/\(∀e∈d.PL,e∈c.PL\/e.sz<=1+(n:Int))/\
   ((d=c/\∃x∈c.its,x.key=str (Cv q)/\(a:Int)<=x.base)\/
    ((∀x∈c.its,x.key=str (Cv q)->x.base<(a:Int))/\∃y:ItM,d.its=(c.its.filter fun x=>x.key≠str (Cv q))++[y]/\y.q=q/\y.base=(a:Int)/\((y.tn=tn/\∀x∈c.its,x.key≠str (Cv q))\/∃x∈c.its,x.key=str (Cv q)/\y.tn=x.tn))))
theorem VI(h:Gh l P c):((c.pos -(a:Int)).toNat<=c.win.length/\(BC q (Cj (Bd (l.take a)) q) (a:Int) (DI c.pos (a:Int) c.win)).2.2=true)↔bD l P c q a:=by
 rw [h.pos];unfold bD;rw [show((P:Int) -(a:Int)).toNat=P -a by omega];by_cases g:P -a<=c.win.length
 · have e:GD q (a:Int) 0 (Cj (Bd (l.take a)) q,(a:Int)) (DI (P:Int) (a:Int) c.win)=GD q (a:Int) 0 (Cj (Bd (l.take a)) q,(a:Int)) (Og l a P):=by
    by_cases B:a<=P
    · exact OU (PY h.win B g)
    · rw [LH A1,show Og l a P=[] by unfold Og;rw [show P -a=0 by omega,Hx]]
   unfold BC;rw [e];constructor
   · rintro ⟨_,h2⟩
     refine ⟨g,?_⟩;split at h2
     · rename_i st h3;exact ⟨st,h3⟩
     · cases h2
   · rintro ⟨_,st,h2⟩
     rw [h2];exact ⟨g,V⟩
 · exact ⟨fun m=>absurd m.1 g,fun m=>absurd m.1 g⟩
theorem zC(g:O3 l)(h:Gh l P c)(I:BJ q)(hk:k<c.ns)(U:k<=1000000)(m:a<=l.length){pg:Option Addr}{cg:Nat}(hL:G8 ME (.slice pg (Fg (Bd (l.take a)) q).length cg) (Fg (Bd (l.take a)) q))(Z:c.next<1000000000)(B:c.its.length<500)(hn:∀b,b<=l.length->(Cj (Bd (l.take b)) q).rows.length<=n)(ax:1+(n:Int)<=c.z.fr)(J:TypeId)(zp:Nat×Nat):
 BZ prog 14 #[.pointer (some ⟨c.cp,0,none⟩),.agg #[I4 q.kd,I4 q.tb,I4 q.cl,I4 q.lo,I4 q.hi,I4 q.bq,I4 q.ot,I4 (k:Int),I4 (a:Int),.slice pg (Fg (Bd (l.take a)) q).length cg]] [c.mem,ME,[(1,.cells (Lib.pow10Tab.map fun z=>Value.int .u64 z).toArray J zp)]] (fun w H'=>∃(b:Bool) (d:CZ),w= .bool b/\Gh l P d/\c.like d/\(c.next<=d.next/\d.next<=c.next+1)/\ng l P c d q (k:Int) a n b/\H'=[d.mem,ME,[(1,.cells (Lib.pow10Tab.map fun z=>Value.int .u64 z).toArray J zp)]]):=by
 have W:=g.len;refine (tI h.ok I hk U (a:Int) ⟨by omega,by omega⟩ hL (by have:=g.make_len m q;omega) (g.fits m q) (g.start m I) Z B (fun af=>by have:=YV g h I m hn af;omega) J zp).mono ?_;rintro w H' ⟨b,d,rfl,hd,G,X,hP,rfl⟩;refine ⟨b,d,V,h.put hd G m hP,G,X,?_,V⟩;rcases hP with⟨K,h2,O⟩|⟨K,h2,O,h4⟩
 · exact .inl ⟨K,h2,fun h9=>O ((VI h).2 h9)⟩
 · refine .inr ⟨K,(VI h).1 h2,fun e he=>(O e he).imp id fun h9=>by have:=YV g h I m hn h2.1;omega,?_⟩
   rcases h4 with h4|⟨h4,y,e1,e2,e3,_,_,_,e4⟩
   · exact .inl h4
   · exact .inr ⟨h4,y,e1,e2,e3,e4⟩
theorem XI(B:O3 l)(h:Gh l P c)(G:l[P]?=some r)(J:Cr ME (.slice r.q r.cs.length r.cap) r.cs):BZ prog 16 #[.pointer (some ⟨c.cp,0,none⟩),.agg #[I4 r.p,.slice r.q r.cs.length r.cap]] [c.mem,ME] (fun w H'=>∃(d:CZ) (q2:Option Addr) (cap2:Nat) (zs:List ByteArray) (tv:Value) (s:List A9),w= .tuple #[tv,I4 0]/\Gh l (P+1) d/\GX c d r.p r.cs q2 cap2 zs/\Row 9 tv (zs.map Value.string) s/\H'=[d.mem,ME,s]):=by
 obtain ⟨I,h2⟩:=h.next B G;refine (zH h.ok J I h2).mono ?_;rintro w H' ⟨d,q2,cap2,zs,tv,s,rfl,m,g,rfl⟩;exact ⟨d,q2,cap2,zs,tv,s,V,h.apply B G m,m,g,V⟩
theorem dM{p:Option Addr}(h:EU M (.slice p l.length cap) l)(G:l[i]?=some r):Cr M (.slice r.q r.cs.length r.cap) r.cs/\∃g off cur T zz,p=some ⟨g,off,none⟩/\(g,Obj.cells cur T zz)∈M/\off+i*2+2<=cur.size/\cur.extract (off+i*2) (off+i*2+2)=#[I4 r.p,.slice r.q r.cs.length r.cap]:=by
 obtain ⟨I,m,e,_,B⟩:=h;injection e with e1 e2 e3
 subst e1 e3;exact B i r G
theorem Xn(g:1<=q.kd/\q.kd<=4)(r:CE)(cs:List Chg):(Ba q r cs).2.2=true:=by
 obtain ⟨B,m⟩:=SC g cs r;unfold Ba;rw [m]
theorem rO{K:ByteArray}(g:∀k,k∈zs↔k=K)(h2:zs.Nodup):zs=[K]:=by
 cases zs with
 |nil=>exact absurd ((g K).2 rfl) B0
 |cons a l=>
  have m:=(g a).1 (Dd ..);subst m;cases l with
  |nil=>rfl
  |cons b l=>
   have B:=(g b).1 B0;subst B;simp at h2
variable{e:TypeId}{xs:List Value}{s:List A9}
theorem vv(h:Row e v xs s)(m:0<xs.length):∃g cap cur z,v=I6 g xs.length cap/\s=[(g,.cells cur e z)]/\xs.length<=cur.size/\∀i,i<xs.length->cur[i]?=xs[i]?:=by
 rcases h with⟨_,h0,_⟩|⟨g,cap,cur,z,rfl,rfl,h1,h2,h3,h4,h5⟩
 · rw [h0]at m;cases m
 · refine ⟨g,cap,cur,z,rfl,rfl,by omega,fun i hi=>?_⟩
   have h:=congrArg (fun l=>l[i]?) h4;simp only [HA,AM hi]at h;simpa using h
theorem YN(g:Nat)(v:Value):Row e (I6 g 1 1) [v] [(g,.cells #[v] e (0,0))]:= .inr ⟨g,1,#[v],(0,0),rfl,rfl,CD 1,by decide,rfl,rfl,BA _⟩
theorem vS(h:c.okb)(B:c.ns=1)(hi:c.its=[x])(G:∀e∈c.PL,e.sz<=1):FU c.PL ((0:Nat):Int)=1:=by
 have h2:(c.PL.map (·.key)).Perm (c.its.map ItM.key):=(OR h.pool.keys h.its.keys).2 h.pk;have m:=h2.length_eq
 rw [B2,B2,hi]at m
 match hP:c.PL,m with
 |[e],_=>
  have g:e∈c.PL:=by rw [hP];simp
  have I:=h.pool.te e g;have J:=h.pool.sz e g
  have K:=G e g;unfold FU;rw [Lk,List.sum_singleton,AM A1];omega
def exD(k a b:Int):Chg:=⟨0,k,false,⟨0,0,0⟩,true,⟨a,b,7⟩⟩
def aQ(p1 p2:Option Addr):List BU:=[⟨1,p1,1,[exD 5 10 2]⟩,⟨2,p2,1,[exD 6 11 9]⟩]
theorem wN{k a b:Int}(g:1<=p/\p<=10000)(h:(exD k a b).ok):EH p [exD k a b]:=⟨g,⟨CD _,by show 1<=8;decide⟩,fun i c hc=>by
 match i,hc with
 |0,hc=>injection hc with hc;rw [<-hc];exact h
 |i+1,hc=>simp at hc,fun i b c m hc=>by simp at hc⟩
theorem jL{k a b:Int}(m:1<=p+1/\p+1<=10000)(h:(exD k a b).ok)(g:GK rs (exD k a b))(hz:Gp rs [exD k a b]<=2000):KQ rs p (p+1) [exD k a b]:=⟨wN m h,rfl,fun c hc=>by rw [BT.1 hc];exact g,hz⟩
def exS:Nat->List AU
 |0=>[]
 |1=>[⟨0,5,⟨10,2,7⟩⟩]
 |_=>[⟨0,5,⟨10,2,7⟩⟩,⟨0,6,⟨11,9,7⟩⟩]
theorem Vx(g m:Option Addr):Bd ((aQ g m).take 0)=exS 0/\Bd ((aQ g m).take 1)=exS 1/\Bd ((aQ g m).take 2)=exS 2:=⟨rfl,by kernel_rfl,by kernel_rfl⟩
theorem xW(m B:Option Addr):F6 (aQ m B):=fun i r g=>by
 obtain ⟨h0,G,_⟩:=Vx m B
 match i,g with
 |0,g=>injection g with g;subst g;rw [h0];exact ⟨jL (p:=0) AW AW (by unfold GK;decide) AW,by show 1<=3;decide⟩
 |1,g=>injection g with g;subst g;rw [G];exact ⟨jL (p:=1) AW AW (by unfold GK;decide) AW,by show 1<=3;decide⟩
 |i+2,g=>simp [aQ]at g
structure pB(l:List BU):Prop where
 b:O3 l
 len:l.length=2
 e2:(Cj (Bd (l.take 2)) exQ).val=2
 e1:(Cj (Bd (l.take 1)) exQ).val=1
 two:∃r,l[1]?=some r/\(∃ch∈r.cs,Co exQ ch=true)/\Rh exQ r=true
theorem U0(rs:List AU):(Cj rs exQ).rows=[]:=rfl
theorem tq(g m:Option Addr):pB (aQ g m):=by
 obtain ⟨_,B,h2⟩:=Vx g m;refine ⟨(xW g m).toB (by show 2<=20;decide),rfl,by rw [h2];decide,by rw [B];decide,_,rfl,⟨exD 6 11 9,.head _,by decide⟩,?_⟩;exact (by decide:[exD 6 11 9].any (Di exQ)=true)
theorem Vt(hi:c.its=[])(g:c.PL=[]){tn:Int}(B:P<=a)(m:ng l P c d q tn a n b):b=true/\∃y:ItM,d.its=[y]/\y.q=q/\y.key=str (Cv q)/\y.base=(a:Int)/\∀e∈d.PL,e.sz<=1+(n:Int):=by
 rcases m with⟨_,_,h⟩|⟨h1,_,h2,⟨_,x,hx,_⟩|⟨_,y,h3,h4,h5,_⟩⟩
 · exact absurd (VH B) h
 · rw [hi]at hx;cases hx
 · refine ⟨h1,y,by rw [h3,hi];rfl,h4,by unfold ItM.key;rw [h4],h5,fun e G=>?_⟩
   rcases h2 e G with h9|h9
   · rw [g]at h9;cases h9
   · exact h9
theorem OY(h:Row e v xs s)(m:xs.length=n)(h0:0<n):∃g cap cur z,v=I6 g n cap/\s=[(g,.cells cur e z)]/\n<=cur.size/\∀i,i<n->cur[i]?=xs[i]?:=by
 subst m;exact vv h h0
theorem iQ(h:Row e v xs s)(g:xs.length=n):∃p cap,v= .slice p n cap:=by
 subst g;obtain ⟨p,cap,h⟩:=h.form;exact ⟨p,cap,h⟩
theorem yR(g:GX c d p cs q2 cap2 zs){y:ItM}(hi:c.its=[y])(B:UH cs y)(m:y.base<p):zs=[y.key]:=rO (fun k=>by
 rw [g.z1,hi];constructor
 · rintro ⟨x,G,rfl,_⟩;rw [BT.1 G]
 · rintro rfl;exact ⟨y,by simp,rfl,B,m⟩) g.z2
theorem vE(g:GX c d p cs q2 cap2 zs)(m:∀x∈c.its,p<=x.base):zs=[]:=pD.2 fun k B=>by
 obtain ⟨x,G,_,_,h⟩:=(g.z1 k).1 B;have:=m x G
 omega
theorem jE(J:GX c d p cs q2 cap2 zs){y:ItM}(hi:c.its=[y])(X:p -64<=y.base)(Z:1<=y.q.kd/\y.q.kd<=4):∃m,d.its=[m]/\m.q=y.q/\m.key=y.key/\m.base=y.base:=by
 obtain ⟨m,G,hc⟩:=J.i2 y (by rw [hi];simp) X fun _ _=>Xn Z _ _;have K:=J.ok.its.keys
 have g:∀w∈d.its,w=m:=fun w O=>by
  obtain ⟨_,x,U,B,_⟩:=J.i1 w O;rw [hi]at U;rw [BT.1 U]at B;exact FV K O G ((JH B).trans (JH hc).symm)
 obtain ⟨_,_,e1,_,e2,_⟩:=Gx hc;refine ⟨m,?_,e1,JH hc,e2⟩;have I:=K
 match hE:d.its,G,I with
 |[w],_,_=>rw [g w (by rw [hE];simp)]
 |w::w2::L,_,I=>
  have W:=g w (by rw [hE];simp);have h2:=g w2 (by rw [hE];simp)
  rw [W,h2]at I;simp at I
theorem ae{g:Nat}{T:TypeId}{z:Nat×Nat}{cur:Array Value}{c:Chg}(G:(g,Obj.cells cur T z)∈M)(I:10<=cur.size)(B:cur.extract 0 10=c.A28):Cr M (I6 g [c].length 1) [c]:=⟨_,_,rfl,by show 1<=maxLen;decide,fun i x m=>by
 match i,m with
 |0,m=>injection m with m;subst m;exact ⟨g,0,cur,T,z,rfl,G,by omega,by simpa using B⟩
 |i+1,m=>simp at m⟩
theorem tZ(G I B:Nat):∃(l:List BU) (M:List A9),M=[(G,Obj.cells #[I4 0,I4 5,.bool false,I4 0,I4 0,I4 0,.bool true,I4 10,I4 2,I4 7] 69 (0,0))]++([(I,Obj.cells #[I4 0,I4 6,.bool false,I4 0,I4 0,I4 0,.bool true,I4 11,I4 9,I4 7] 69 (0,0))]++[(B,Obj.cells #[I4 1,I6 G 1 1,I4 2,I6 I 1 1] 50 (0,0))])/\pB l/\EU M (I6 B l.length 2) l:=by
 refine ⟨aQ (some ⟨G,0,none⟩) (some ⟨I,0,none⟩),_,V,tq _ _,⟨_,_,V,⟨by show 2<=maxLen;decide,CD _⟩,fun i r m=>?_⟩⟩
 match i,m with
 |0,m=>injection m with m;subst m;exact ⟨ae (g:=G) (c:=exD 5 10 2) (.head _) AW rfl,B,0,_,_,_,rfl,.tail _ (.tail _ (.head _)),cN rfl,rfl⟩
 |1,m=>injection m with m;subst m;exact ⟨ae (g:=I) (c:=exD 6 11 9) (.tail _ (.head _)) AW rfl,B,0,_,_,_,rfl,.tail _ (.tail _ (.head _)),cN rfl,rfl⟩
 |i+2,m=>simp [aQ]at m
set_option maxHeartbeats 4000000 in
theorem yl(Tg:TypeId)(zg:Nat×Nat)(Tp:TypeId)(zp:Nat×Nat):BI prog 8 #[] [[(4,.cells (Eo.map Ct).toArray Tg zg)],[(1,.cells (Lib.pow10Tab.map fun z=>Value.int .u64 z).toArray Tp zp)]] (.bool true):=by
 have hml:=mL;refine Se func8 ntmps8 [] ?_;intro u R;refine A0<|A3 Y<|A0<|Zv (BL (vs:=[(0,_),(1,_),(2,_)]) (cs:=#[_,_,_]) Y (DZ cD Hj A5 V))<|Zv (BL (vs:=[(1,I4 5),(4,.bool true),(5,.agg #[I4 10,I4 2,I4 7])]) (cs:=#[I4 0,I4 5,.bool false,I4 0,I4 0,I4 0,.bool true,I4 10,I4 2,I4 7]) Y (AY (pl:=#[(0,1),(1,1),(2,1),(3,3),(6,1),(7,3)]) LN B8 (fun _=>by kernel_rfl) A6))<|Ze (Aj (vs:=[_]) (cs:=[_,_,_,_,_,_,_,_,_,_]) G4 C3 LN Y V rfl V rfl V)<|AD fun g1=>Zv (BL (vs:=[(0,_),(1,_)]) (cs:=#[_,_]) Y (AY (pl:=#[(0,1),(1,1)]) Sx GS (fun _=>by kernel_rfl) V))<|Zv (BL (vs:=[(0,_),(1,_),(2,_)]) (cs:=#[_,_,_]) Y (DZ cD Hj A5 V))<|Zv (BL (vs:=[(1,I4 6),(4,.bool true),(5,.agg #[I4 11,I4 9,I4 7])]) (cs:=#[I4 0,I4 6,.bool false,I4 0,I4 0,I4 0,.bool true,I4 11,I4 9,I4 7]) Y (AY (pl:=#[(0,1),(1,1),(2,1),(3,3),(6,1),(7,3)]) LN B8 (fun _=>by kernel_rfl) A6))<|Ze (Aj (vs:=[_]) (cs:=[_,_,_,_,_,_,_,_,_,_]) G4 C3 LN Y V rfl V rfl V)<|AD fun g2=>Zv (BL (vs:=[(0,_),(1,_)]) (cs:=#[_,_]) Y (AY (pl:=#[(0,1),(1,1)]) Sx GS (fun _=>by kernel_rfl) V))<|Ze (Aj (vs:=[_,_]) (cs:=[_,_,_,_]) GC F2 Sx Y V rfl V rfl V)<|AD fun g0=>A3 Y<|Zq<|CK (s1:=[(g2,Obj.cells #[I4 0,I4 6,.bool false,I4 0,I4 0,I4 0,.bool true,I4 11,I4 9,I4 7] 69 (0,0))]) (s2:=[(g0,Obj.cells #[I4 1,I6 g1 1 1,I4 2,I6 g2 1 1] 50 (0,0))]) Wo Wo ?_;refine CK (s1:=[(g1,Obj.cells #[I4 0,I4 5,.bool false,I4 0,I4 0,I4 0,.bool true,I4 10,I4 2,I4 7] 69 (0,0))]) (s2:=([(g2,Obj.cells #[I4 0,I4 6,.bool false,I4 0,I4 0,I4 0,.bool true,I4 11,I4 9,I4 7] 69 (0,0))]++[(g0,Obj.cells #[I4 1,I6 g1 1 1,I4 2,I6 g2 1 1] 50 (0,0))])) Wo Wo ?_;obtain ⟨l,M,hM,g,qa⟩:=tZ g1 g2 g0;rw [<-hM];have zk:=g.len
 rw [show(Value.slice (some ⟨g0,0,none⟩) 2 2:Value)=I6 g0 l.length 2 by rw [zk]];obtain ⟨U,O,yt,LD⟩:=g.two;obtain ⟨af,gm,offm,curm,Tm,zm,sj,r9,hszm,ax⟩:=dM qa O;injection sj with sj
 injection sj with hpm1 hpm2 _
 subst hpm1 hpm2;refine Zg<|Zv (BL (vs:=[(0,I4 3),(2,I4 1),(3,I4 10),(4,I4 19)]) (cs:=#[I4 3,I4 0,I4 1,I4 10,I4 19,I4 0,I4 0]) Y (AY (pl:=#[(0,1),(1,1),(2,1),(3,1),(4,1),(5,1),(6,1)]) Mu CA (fun _=>by kernel_rfl) A6))<|Ze (Al Mu #[_,_,_,_,_,_,_])<|AD fun bq=>Xe (Xw CC #[I4 3,I4 0,I4 1,I4 10,I4 19,I4 0,I4 0]) ?_;refine Z0<|Zn [1,2] ?_;refine Zx<|A0<|Zo Wh (AA (cs:=#[_,_,_,_,_,_,_]) E4 CC Y AW (by exact BM V)) ?_;refine Xr [_] Y call11 Y V (NW exQ Tu Tp zp) ?_;refine Zm Y<|Zd Y V<|Zd Y V<|Za Y<|A3 Y<|A0<|Ze (Aj (vs:=[_]) (cs:=[_]) D0 A5 H3 Y V rfl V rfl V)<|AD fun gs=>Zc [_,_,_] Y call13 Y V (oS (sh:=[5]) (YN gs (I4 5)) 1 10 AW AW AW AW AW) ?_;rintro _ _ ⟨_,⟨c0,rfl,Qd,⟨W,o9,hw0⟩,Ty,zy,p9,Z,rfl⟩,rfl⟩;have L0:Gh l 1 c0:=⟨Qd,Ty,by omega,by rw [hw0];exact Ra l 1,fun x I=>by rw [W]at I;cases I⟩
 refine Zm Y<|Zd Y V<|Zd Y V<|Za Y<|AG Y<|Zn [1,2,3,5,6] ?_;refine Zx<|A0<|Ze (Aj (vs:=[_]) (cs:=[_]) D0 A5 H3 Y V rfl V rfl V)<|AD fun P7=>Xr [_,_,_] Y call13 Y V (uH (-1) 10 (I6 P7 1 1) AW) ?_;refine Zm Y<|Zd Y V<|Zd Y V<|Za Y<|A3 Y<|Zq<|A0<|Zm Y<|Zv (Be N6 Y Y)<|Zm Y<|Ag (t:=55) Y V (fun k1=>by cases k1)<|fun k1=>Zf Y Y<|Yg (FR (n:=0) Y Y)<|Zv (AL Y Y)<|Zm Y<|Am (t:=59) Y V (fun k2=>?_) (fun k2=>?_)
 ·
  exact absurd V k2
 refine Zf Y Y<|Yg (FR (n:=180) Y Y)<|Zv (AL Y Y)<|Z0<|Zn [1,2,3,5,62] ?_;refine Zx<|Au Y (fun k3=>?_) (fun k3=>?_)
 ·
  exact absurd V k3
 refine AC<|Zx<|A0<|Zm Y<|Zm Y<|Zo Wh (AA (cs:=#[_,_,_,_,_,_,_]) E4 CC Y AW (by exact BM V)) ?_;refine Zc [_,_,_,_] Y call15 Y V (XW qa g.b.ok A1 1 A1 Tu (g.b.scan 1 A1 exQ) 0 Tg zg) ?_;rintro _ _ ⟨_,⟨E1,pg1,cg1,vw,rfl,rfl⟩,rfl⟩;have l8:1+((0:Nat):Int)<=c0.z.fr:=by
  have h9:=Ww L0.ok.tookb (B:=0) (by rw [o9];simp);rw [W,Z]at h9;simp at h9⊢;omega
 refine Zc [_,_] Y call14 Y rfl (zC g.b L0 Tu (k:=0) (by rw [p9];decide) AW (a:=1) A1 vw (by have:=zy;omega) (by rw [W];decide) (n:=0) (fun b hb=>by rw [U0];decide) l8 Tp zp) ?_;rintro _ _ ⟨_,⟨b1,c1,rfl,L1,d9,hnn1,Pn,rfl⟩,rfl⟩;obtain ⟨rfl,y1,j5,kv,qz,gB,hsz1⟩:=Vt W o9 A1 Pn;rw [<-d9.cp];have zl:c1.ns=1:=d9.ns.trans p9
 have qj:c1.z.cap=10:=d9.cap.trans Z;have hnx1:c1.next<=11:=by omega
 refine A3 Y<|A0<|Zm Y<|Zm Y ?_;have bn:=Oy L1.ok (x:=y1) (by rw [j5];simp) (by rw [gB,L1.pos];omega)
 rw [qz]at bn;refine Zc [_,_] Y call17 Y V (bn) ?_;rintro _ _ ⟨_,⟨z1,l1,s1,Mx,hpc1,hzo1,rfl,rfl⟩,rfl⟩;obtain ⟨a1,e11,e12,e13,e14,MS⟩:=L1.at g.b (x:=y1) (by rw [j5];simp);obtain rfl:a1=1:=by omega
 have hv1:z1.a.res.val=1:=by rw [Mx];show y1.res.val=1;rw [(MS A1).1,kv];exact g.e1
 have hu1:z1.a.until_=1:=by rw [Mx];show c1.pos=1;rw [L1.pos];rfl
 refine Zm Y<|Zd Y V<|Zd Y V<|Ze (Al HU #[_,_,_,_,_,_,_,_,_,_,_,_,_,_,_])<|AD fun ba=>Xe (Xw H4 z1.A31) ?_;refine AG Y<|Zn [1,2,3,5,9,10,11] ?_;refine Zx<|A0<|Zm Y<|Zm Y<|BX (Ac (j:=1) GC F2 Y Y A1)<|CQ (Gs Wo (r9)) (AA (cs:=#[I4 U.p,.slice U.q U.cs.length U.cap]) HW F2 Y A1 (by exact ax)) V rfl ?_;refine Zc [_,_] Y call16 Y V (XI g.b L1 O af) ?_;rintro _ _ ⟨_,⟨c2,q22,MK,zs2,tv2,sT2,rfl,L2,X,pz,rfl⟩,rfl⟩;have G:U.p=c1.pos+1:=(L1.next g.b O).2
 rw [L1.pos]at G;have MC:zs2=[y1.key]:=yR X j5 (by unfold UH;rw [kv];exact yt) (by rw [gB,G];omega)
 rw [MC,qz]at pz;obtain ⟨gt,capt,sM,zt,rfl,rfl,hszt,T9⟩:=OY pz (n:=1) rfl AW;have x9:sM[0]?=some (.string (str (Cv exQ))):=T9 0 AW
 rw [<-X.cp];obtain ⟨y2,za,sw,zb,ic⟩:=jE X j5 (by rw [gB];omega) (by rw [kv];decide);rw [kv]at sw;rw [qz]at zb;rw [gB]at ic;have zq:c2.ns=1:=X.ns.trans zl
 have ql:c2.z.cap=10:=X.cap.trans qj;have hnx2:c2.next<=12:=by rw [X.next];omega
 refine Zm Y<|Zd Y V<|Zd Y V<|Za Y<|A3 Y<|A0<|Zm Y<|Zm Y ?_;have cu:=Oy L2.ok (x:=y2) (by rw [za];simp) (by rw [ic,L2.pos];omega)
 rw [zb]at cu;refine Zc [_,_] Y call17 Y V (cu) ?_;rintro _ _ ⟨_,⟨z2,l2,s2,sJ,Gl,hzo2,rfl,rfl⟩,rfl⟩;obtain ⟨a2,e21,e22,e23,P5,e25⟩:=L2.at g.b (x:=y2) (by rw [za];simp);obtain rfl:a2=1:=by omega
 obtain ⟨e241,sO,o8,_⟩:=P5 A1;have hv2:z2.a.res.val=2:=by rw [sJ];show y2.res.val=2;rw [sO,sw];exact g.e2
 have Y2:z2.a.since=2:=by
  rw [sJ];show y2.since=2
  rw [sw]at o8;obtain ⟨⟨a1,a2⟩,_,a4⟩:=o8;rcases (by omega:y2.since=2\/y2.since<=1)with h9|h9
  · exact h9
  · have ht:=a4 1 U A1 AW O
    rw [LD]at ht;cases ht
 have Ta:z2.a.recs.length=1:=by
  rw [sJ];show l2.length=1
  have h9:=congrArg List.length Gl;rw [B2,B2,O6 (by rw [L2.pos,ic];omega),L2.pos,ic]at h9;omega
 refine Zm Y<|Zd Y V<|Zd Y V<|Ze (Al HU #[_,_,_,_,_,_,_,_,_,_,_,_,_,_,_])<|AD fun bb=>Xe (Xw H4 z2.A31) ?_;refine AG Y<|Zn [1,2,3,5,9,10,11,12,13,14,15] ?_;refine Zx<|A0<|Zm Y<|Zm Y<|BX (Ac (j:=1) GC F2 Y Y A1)<|CQ (Gs Wo (r9)) (AA (cs:=#[I4 U.p,.slice U.q U.cs.length U.cap]) HW F2 Y A1 (by exact ax)) V rfl ?_;refine Xr [_,_] Y call16 Y rfl (ZG L2.ok.tookb af (L1.next g.b O).1 (by rw [G,L2.pos];omega)) ?_;refine Zm Y<|Zd Y V<|Zd Y V<|Za Y<|A3 Y<|A0<|Zm Y<|Zc [_,_] Y call28 Y V (zF L2.ok 1 AW) ?_;rintro _ _ ⟨_,⟨rfl,c3,Qe,wz,⟨m,p8,hw3⟩,FT,gy,gq,K,rfl⟩,rfl⟩;rw [<-wz];have L3:Gh l 1 c3:=⟨Qe,FT,by omega,by rw [hw3];exact Ra l 1,fun x I=>by rw [m]at I;cases I⟩
 rw [zq]at gq;rw [ql]at K;replace gy:c3.next<=13:=by rw [gy];omega
 refine A4<|A0<|Zm Y<|Zc [_] Y call19 Y V (yJ L3.ok.tookb) ?_;rintro _ _ ⟨_,⟨zs3,sk3,pq,_,HZ,rfl⟩,rfl⟩;rw [m]at pq;have ME:zs3=[]:=pq.eq_nil
 subst ME;obtain ⟨pk3,ck3,rfl⟩:=iQ HZ (n:=0) rfl;refine Zv (Aa Cd Y)<|Zv (CR (n:=0) Y Y)<|Zm Y<|Am (t:=102) Y V (fun k4=>?_) (fun k4=>?_)
 ·
  refine Zf Y Y<|Xr [_] Y call29 Y V (tM c3) ?_;rw [FT];refine Yg (CR (n:=1) Y Y)<|Zv (AV Y Y)<|AG Y<|Zn [1,2,3,5,9,10,11,12,13,14,15,17,18] ?_;refine Zx<|A0<|Zm Y<|Zm Y<|Zo Wh (AA (cs:=#[_,_,_,_,_,_,_]) E4 CC Y AW (by exact BM V)) ?_;refine Zc [_,_,_,_] Y call15 Y V (XW qa g.b.ok A1 2 A1 Tu (g.b.scan 2 A1 exQ) 0 Tg zg) ?_;rintro _ _ ⟨_,⟨E2,pg2,cg2,vz,rfl,rfl⟩,rfl⟩;have l9:1+((0:Nat):Int)<=c3.z.fr:=by
   have h9:=Ww L3.ok.tookb (B:=0) (by rw [p8];simp);rw [m,K]at h9;simp at h9⊢;omega
  refine Zc [_,_] Y call14 Y rfl (zC g.b L3 Tu (k:=0) (by rw [gq];decide) AW (a:=2) A1 vz (by have:=gy;omega) (by rw [m];decide) (n:=0) (fun b hb=>by rw [U0];decide) l9 Tp zp) ?_;rintro _ _ ⟨_,⟨b4,c4,rfl,L4,ek,hnn4,Ps,rfl⟩,rfl⟩;obtain ⟨rfl,y4,qw,Gw,zf,j3,LC⟩:=Vt m p8 A1 Ps;rw [<-ek.cp];have zu:c4.ns=1:=ek.ns.trans gq
  have qo:c4.z.cap=10:=ek.cap.trans K;have hnx4:c4.next<=14:=by omega
  refine A3 Y<|A0<|Zm Y<|Zm Y ?_;have y9:=lW L4.ok (x:=y4) (by rw [qw];simp) (by rw [j3,L4.pos];omega)
  rw [zf]at y9;refine Xr [_,_] Y call17 Y V (y9) ?_;refine Zm Y<|Zd Y V<|Zd Y V<|Ze (Al HU #[_,_,_,_,_,_,_,_,_,_,_,_,_,_,_])<|AD fun bc=>Xe (Xw H4 #[I4 0,I4 0,I4 0,I4 0,I4 0,I4 0,I4 0,.slice none 0 0,I4 0,.bool false,I4 0,I4 0,I4 0,.slice none 0 0,.slice none 0 0]) ?_;refine AG Y<|Zn [1,3,5,9,10,11,12,13,14,15,17,18,19,21] ?_;refine Zx<|A0<|Zm Y<|Zm Y<|BX (Ac (j:=1) GC F2 Y Y A1)<|CQ (Gs Wo (r9)) (AA (cs:=#[I4 U.p,.slice U.q U.cs.length U.cap]) HW F2 Y A1 (by exact ax)) V rfl ?_;refine Zc [_,_] Y call16 Y V (XI g.b L4 O af) ?_;rintro _ _ ⟨_,⟨c5,q52,MP,zs5,tv5,sT5,rfl,L5,J,q9,rfl⟩,rfl⟩;have G:U.p=c4.pos+1:=(L4.next g.b O).2
  rw [L4.pos]at G;have MJ:zs5=[]:=vE J fun x I=>by rw [qw]at I;rw [BT.1 I,j3];omega
  rw [MJ]at q9;obtain ⟨pk5,ck5,rfl⟩:=iQ q9 (n:=0) rfl;rw [<-J.cp];obtain ⟨y5,qx,Hf,zi,qb⟩:=jE J qw (by rw [j3];omega) (by rw [Gw];decide);rw [Gw]at Hf;rw [zf]at zi;rw [j3]at qb;have pg:c5.ns=1:=J.ns.trans zu
  have Rl:c5.z.cap=10:=J.cap.trans qo;have hnx5:c5.next<=15:=by rw [J.next];omega
  refine Zm Y<|Zd Y V<|Zd Y V<|Za Y<|A3 Y<|A0<|Zm Y<|Zm Y ?_;have cO:=Oy L5.ok (x:=y5) (by rw [qx];simp) (by rw [qb,L5.pos];omega)
  rw [zi]at cO;refine Zc [_,_] Y call17 Y V (cO) ?_;rintro _ _ ⟨_,⟨z5,l5,s5,MB,hpc5,hzo5,rfl,rfl⟩,rfl⟩;obtain ⟨a5,e51,e52,e53,e54,P6⟩:=L5.at g.b (x:=y5) (by rw [qx];simp);obtain rfl:a5=2:=by omega
  have hv5:z5.a.res.val=2:=by rw [MB];show y5.res.val=2;rw [(P6 A1).1,Hf];exact g.e2
  have wo:z5.a.base=2:=by rw [MB];show y5.base=2;rw [qb];rfl
  refine Zm Y<|Zd Y V<|Zd Y V<|Ze (Al HU #[_,_,_,_,_,_,_,_,_,_,_,_,_,_,_])<|AD fun bd=>Xe (Xw H4 z5.A31) ?_;refine AG Y<|Zn [3,5,9,10,11,12,13,14,15,17,18,19,21,22,24,25] ?_;refine Zx<|A0<|Zm Y<|Zm Y<|Ag (t:=133) Y V (fun g1=>?_) (fun g1=>?_)
  ·
   refine Zf Y Y<|Zv (AV Y Y)<|Zm Y<|Ag (t:=136) Y V (fun g2=>?_) (fun g2=>?_)
   ·
    refine Yf 7 HP V rfl As Y<|Yg (Ap (off:=1) C7 V rfl A5 Y)<|Yl AE Y ?_;refine Yg (CP Y Y)<|Zv (AV Y Y)<|Zm Y<|Am (t:=142) Y V (fun g3=>?_) (fun g3=>?_)
    ·
     refine Yf 11 HP V rfl A5 Y<|Yl AE Y ?_;refine Yg (CP Y Y)<|Zv (AV Y Y)<|Zm Y<|Am (t:=147) Y V (fun g4=>?_) (fun g4=>?_)
     ·
      refine Zf Y Y<|Yg (CR (n:=0) Y Y)<|Zv (AV Y Y)<|Zm Y<|Am (t:=151) Y V (fun g5=>?_) (fun g5=>?_)
      ·
       refine Zf Y Y<|Yg (Aa Cd Y)<|Yg (CR (n:=1) Y Y)<|Zv (AV Y Y)<|Zm Y<|Am (t:=156) Y V (fun g6=>?_) (fun g6=>?_)
       ·
        refine Zf Y Y ?_
        (refine Gr Y (BQ (j:=0) Cd F1 Y Y ?_) rfl rfl ?_;(focus (first|omega|decide|(simp;done))))
        refine Yl HB Y (hv:=by exact x9) ?_;refine Zf Y Y<|Yg (Va Y Y)<|Zv (AV Y Y)<|AG Y<|Zn [5,14,15,17,18,19,21,22,24,25,26] ?_;refine Zx<|A0<|Zm Y<|Zm Y<|Ag (t:=164) Y V (fun g8=>?_) (fun g8=>?_)
        ·
         refine Yf 7 HP V rfl As Y<|Yg (Ap (off:=1) C7 V rfl A5 Y)<|Yl AE Y ?_;refine Yg (CP Y Y)<|Zv (AV Y Y)<|Zm Y<|Am (t:=170) Y V (fun g9=>?_) (fun g9=>?_)
         ·
          refine Yf 10 HP V rfl A5 Y<|Yl AE Y ?_;refine Yg (CP Y Y)<|Zv (AV Y Y)<|Zm Y<|Am (t:=175) Y V (fun ve=>?_) (fun ve=>?_)
          ·
           refine Yf 14 HP V rfl S6 Y<|Yl isAgg25 Y ?_;refine Yg (Aa GC Y)<|Yg (CR (n:=1) Y Y)<|Zv (AV Y Y)<|Zm Y<|Am (t:=181) Y V (fun vo=>?_) (fun vo=>?_)
           ·
            refine Zf Y Y<|Yg (CR (n:=180) Y Y)<|Zv (AV Y Y)<|AG Y<|Zn [5,18,19,21,22,24,25,26,27] ?_;refine Zx<|A0<|Zm Y<|Zm Y<|Am (t:=186) Y V (fun m1=>?_) (fun m1=>?_)
            ·
             refine Zf Y Y<|Zv (AV Y Y)<|Zm Y<|Am (t:=189) Y V (fun m2=>?_) (fun m2=>?_)
             ·
              refine Zf Y Y<|Zv (AV Y Y)<|Zm Y<|Am (t:=192) Y V (fun m3=>?_) (fun m3=>?_)
              ·
               refine Zf Y Y<|Zv (AV Y Y)<|Zm Y<|Ag (t:=195) Y V (fun m4=>?_) (fun m4=>?_)
               ·
                refine Zf Y Y<|Yg (Bo Y)<|Zv (AV Y Y)<|Zm Y<|Ag (t:=199) Y V (fun m5=>?_) (fun m5=>?_)
                ·
                 refine Zf Y Y<|Yg (Aa Cd Y)<|Yg (CR (n:=0) Y Y)<|Zv (AV Y Y)<|Zm Y<|Am (t:=204) Y V (fun m6=>?_) (fun m6=>?_)
                 ·
                  refine Zf Y Y<|Zv (AV Y Y)<|Zm Y<|Ag (t:=207) Y V (fun m7=>?_) (fun m7=>?_)
                  ·
                   refine Yf 7 HP V rfl As Y<|Yg (Ap (off:=1) C7 V rfl A5 Y)<|Yl AE Y ?_;refine Yg (CP Y Y)<|Zv (AV Y Y)<|Zm Y<|Am (t:=213) Y V (fun m8=>?_) (fun m8=>?_)
                   ·
                    refine Yf 12 HP V rfl A5 Y<|Yl AE Y ?_;refine Yg (CP Y Y)<|Zv (AV Y Y)<|Zm Y<|Am (t:=218) Y V (fun m9=>?_) (fun m9=>?_)
                    ·
                     refine Zf Y Y<|Xr [_,_] Y call30 Y rfl (r8 (k:=0) L5.ok.tookb (by rw [pg];decide)) ?_;rw [vS L5.ok.tookb pg qx (fun e he=>LC e (J.PL e he))];refine Yg (CR (n:=1) Y Y)<|Zv (AV Y Y)<|AG Y<|Zn [0] ?_;refine Zx<|AJ<|AP V results8 Y (by exact ⟨V,V⟩)
                    exact absurd wo m9
                   exact absurd hv5 m8
                  cases m7
                 exact absurd V m6
                cases m5
               cases m4
              exact absurd V m3
             exact absurd V m2
            exact absurd V m1
           exact absurd Ta vo
          exact absurd Y2 ve
         exact absurd hv2 g9
        cases g8
       exact absurd V g6
      exact absurd V g5
     exact absurd hu1 g4
    exact absurd hv1 g3
   cases g2
  cases g1
 exact absurd V k4
def M9(z:Int):Nat:=if z<0 then(-(z+1)).toNat else z.toNat
theorem jT{z:Int}(h:z<0):(-(z+1)).toNat=M9 z:=(AM h).symm
theorem jS{z:Int}(h:¬z<0):z.toNat=M9 z:=(AK h).symm
def sQ(had:Bool)(m:Nat):Bool:=!had||decide (0<m%4)
def tG(m:Nat):V3:=⟨((m/4%10:Nat):Int),((1+m/40%9:Nat):Int),((m/400%40:Nat):Int) -20⟩
def jO(gr:AU×Bool)(n m:Nat):Chg:=⟨((n%3:Nat):Int),((1+n/3%9:Nat):Int),gr.2,gr.1.v,sQ gr.2 m,if sQ gr.2 m then tG m else V3.zero⟩
def Qq(rs:List AU)(n m:Nat):Chg:=jO (Fh rs ((n%3:Nat):Int) ((1+n/3%9:Nat):Int)) n m
def Rz(c y:Chg):Bool:=decide (y.t=c.t/\y.k=c.k)
def FK(cs:List Chg)(c:Chg)(k n:Nat):Prop:=cs.any (Rz c)=true\/(c.had=true/\c.has=true/\c.o=c.n)\/(0<k/\n%5=0)
instance(cs:List Chg)(c:Chg)(k n:Nat):Decidable (FK cs c k n):=inferInstanceAs(Decidable (_\/_))
def M6(c y:Chg):Prop:=c.t<y.t\/y.t=c.t/\c.k<y.k
instance(c y:Chg):Decidable (M6 c y):=inferInstanceAs(Decidable (_\/_))
def Q3(cs:List Chg)(c:Chg):Nat->Nat
 |0=>0
 |j+1=>match cs[j]?with
  |some y=>if M6 c y then Q3 cs c j else j+1
  |none=>j+1
variable{j:Nat}
theorem Yc{c y:Chg}(h0:0<j)(g:cs[j -1]?=some y)(h:M6 c y):Q3 cs c j=Q3 cs c (j -1):=by
 obtain ⟨k,rfl⟩:∃k,j=k+1:=⟨j -1,by omega⟩;rw [RM]at g⊢;rw [Q3,g];exact AM h
theorem YZ{c y:Chg}(h0:0<j)(g:cs[j -1]?=some y)(h:¬M6 c y):Q3 cs c j=j:=by
 obtain ⟨k,rfl⟩:∃k,j=k+1:=⟨j -1,by omega⟩;rw [RM]at g;rw [Q3,g];exact AK h
theorem qF{c:Chg}(h0:¬0<j):Q3 cs c j=j:=by
 obtain rfl:j=0:=by omega
 rfl
noncomputable def Uy(rs:List AU)(z:List Int)(k:Nat)(cs:List Chg):List Chg:=
 if FK cs (Qq rs (M9 (z.getD (2*k) 0)) (M9 (z.getD (2*k+1) 0))) k (M9 (z.getD (2*k) 0))then cs
 else cs.take (Q3 cs (Qq rs (M9 (z.getD (2*k) 0)) (M9 (z.getD (2*k+1) 0))) cs.length)++[Qq rs (M9 (z.getD (2*k) 0)) (M9 (z.getD (2*k+1) 0))]++cs.drop (Q3 cs (Qq rs (M9 (z.getD (2*k) 0)) (M9 (z.getD (2*k+1) 0))) cs.length)
noncomputable def GA(rs:List AU)(z:List Int):Nat->List Chg
 |0=>[]
 |k+1=>Uy rs z k (GA rs z k)
variable{z:List Int}
theorem RQ{n:Int}(h:z[i]?=some n):z.getD i 0=n:=by rw [Lz,h];rfl
theorem KL{m:Nat}{B G:Int}{c:Chg}(g:cs=GA rs z k)(I:z[2*k]?=some B)(J:z[2*k+1]?=some G)(O:n=M9 B)(K:m=M9 G)(hc:c=Qq rs n m)(h:FK cs c k n):cs=GA rs z (k+1):=by
 subst O K hc;show _=Uy rs z k (GA rs z k)
 unfold Uy;rw [RQ I,RQ J,<-g,AM h]
theorem uK{m:Nat}{B G:Int}{c:Chg}(g:cs=GA rs z k)(I:z[2*k]?=some B)(J:z[2*k+1]?=some G)(U:n=M9 B)(O:m=M9 G)(hc:c=Qq rs n m)(h:¬FK cs c k n)(K:Q3 cs c cs.length=j):cs.take j++[c]++cs.drop j=GA rs z (k+1):=by
 subst U O hc K;show _=Uy rs z k (GA rs z k)
 unfold Uy;rw [RQ I,RQ J,<-g,AK h]
def YM(L:List (List Chg)):List AU:=L.foldl DN []
theorem YL(l:List BU):YM (l.map BU.cs)=Bd l:=by unfold YM Bd;rw [List.foldl_map]
noncomputable instance(rs:List AU)(p q:Int)(cs:List Chg):Decidable (KQ rs p q cs):=Classical.propDecidable _
noncomputable def Md(L:List (List Chg))(z:List Int):List (List Chg):=
 if KQ (YM L) (L.length:Int) ((L.length:Int)+1) (GA (YM L) z 3)then L++[GA (YM L) z 3]else L
noncomputable def TL(xs:List (List Int)):List (List Chg):=xs.foldl Md []
theorem Vi{xs:List (List Int)}(hz:xs[i]?=some z):TL (xs.take (i+1))=Md (TL (xs.take i)) z:=by
 unfold TL;rw [PF,hz,Xs];rfl
theorem wR{xs:List (List Int)}{g:List BU}(hz:xs[i]?=some z)(m:g.map BU.cs=TL (xs.take i))(hc:r.cs=GA (Bd g) z 3)(h:KQ (Bd g) (g.length:Int) ((g.length:Int)+1) r.cs):(g++[r]).map BU.cs=TL (xs.take (i+1)):=by
 rw [Vi hz,<-m];unfold Md;rw [YL,B2,<-hc,AM h,Bm];rfl
theorem zD{xs:List (List Int)}{g:List BU}(hz:xs[i]?=some z)(m:g.map BU.cs=TL (xs.take i))(hc:cs=GA (Bd g) z 3)(h:¬KQ (Bd g) (g.length:Int) ((g.length:Int)+1) cs):g.map BU.cs=TL (xs.take (i+1)):=by
 rw [Vi hz,<-m];unfold Md;rw [YL,B2,<-hc,AK h]
theorem zW{p:Chg->Bool}{x:Chg}(g:cs[i]?=some x):(cs.take (i+1)).any p=((cs.take i).any p||p x):=by
 rw [PF,g,List.any_append];simp
theorem Xo{p:Chg->Bool}{x:Chg}{g:Bool}(B:cs[i]?=some x)(m:b=(cs.take i).any p)(h:g=(b||p x)):g=(cs.take (i+1)).any p:=by
 rw [zW B,<-m,h]
end Go.Proofs.YteaiajghbkenoaaGreatDoor
