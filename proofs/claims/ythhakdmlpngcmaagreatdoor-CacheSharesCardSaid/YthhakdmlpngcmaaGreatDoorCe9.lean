/- A pool that is full: Put. -/
import Derived.Test.YthhakdmlpngcmaaGreatDoorMm5
set_option linter.unusedVariables false
set_option linter.unusedSimpArgs false
namespace Go.Proofs.YthhakdmlpngcmaaGreatDoor
open Go.Proofs.Tryz
open Go Go.RowKit Gw
set_option maxRecDepth 100000
attribute [local irreducible] Gw.At Gw.Nx Gw.Ops
theorem iI(p:B8)(n c:Nat):BR prog 83 #[.slice p n c] [] (fun r H'=>∃b,r= .func (.func 136) #[] #[I5 b]/\H'=[[(b,.cells #[.slice p n c] 180 (0,0))]]):=by
 refine Se func83 ntmps83 [0] ?_;intro u R;refine A1<|Ze (Bx #[_])<|AG fun b=>A5 Y<|A1<|Zv (Bg (vs:=[]) (us:=[_]) Y Y)<|A5 Y<|AJ<|AP V results83 Y (by exact ⟨_,V,V⟩)
theorem iJ{M:List A9}{v:A4}{ls:List Bf}(hv:zP M v ls)(b:Nat)(hn:ls.length<=1000000):Ef prog 136 #[I5 b] [[(b,.cells #[v] 180 (0,0))]] (fun s=>∀c∈M,c∈s) (fun x:Nat×Bf=>#[I4 ((x.1:Nat):Int),pV x.2.b]) (bwd ls):=by
 have af:=mL;obtain ⟨p,cap,rfl,_,hg⟩:=hv;intro l J hA hy s B;refine Se func136 ntmps136 [0,1] ?_;intro u R;refine A1<|Zl isAgg180 Y ?_;refine Zv (Ac cE Y) ?_
 (refine BU (FP Y Y (IntWalk.i64_in _ ?_)) ?_;(focus (omega)))
 refine A5 Y<|AQ<|Zb [3,0,1] ?_;refine BI (e0:=[(3,_)]) (fun m e H=>∃(k:Nat) (s:List A9),m=0+k/\(k<=ls.length/\J ((bwd ls).take (ls.length -k)) s)/\e=[(3,I4 ((k:Int) -1))]/\H=[[(b,.cells #[.slice p ls.length cap] 180 (0,0))],s]) (by exact ⟨ls.length,s,rfl,⟨CI _,by rw [T5,IF];exact B⟩,rfl,rfl⟩) Wp ?_;rintro _ _ _ ⟨k,s,rfl,⟨hk,B⟩,rfl,rfl⟩;refine Zq<|A1<|Zm Y<|Zv (Gj Y Y)<|A6<|Aw Y (fun X=>?_) (fun X=>?_);·
  obtain ⟨m,rfl⟩:∃m,k=m+1:=⟨k -1,by omega⟩;rw [show(((m+1:Nat):Int) -1)=((m:Nat):Int) by omega];obtain ⟨z9,O⟩:∃z9,ls[m]?=some z9:=⟨_,BT A0⟩;have G:=Xf O
  obtain ⟨g,o,cur,T,zz,rfl,hm,I⟩:=hg m z9 O;have Z:=hy _ _ _ s (KA G) B
  refine AC<|Zx<|Zq<|AQ<|A1<|Zm Y<|Zm Y<|Zl isAgg180 Y ?_;refine Zm Y<|BU (CG cE H4 Y Y cn)<|CS (IX Wo (hA _ s B _ hm)) (BF SJ Y I) rfl rfl ?_;refine Ze (Fe (vs:=[_,_]) Y Y (Z) Wp) ?_;rintro _ _ ⟨_,⟨s',rfl,rfl,U⟩,rfl⟩;refine Zv (Bt Y)<|A6<|AU Y (fun hb=>by cases hb)<|fun hb=>AC<|A8<|Zx<|Zg<|Zm Y ?_
  (refine BU (FP Y Y (IntWalk.i64_in _ ?_)) ?_;(focus (omega)))
  refine AW Y<|Zn [3,0,1] ?_;refine Aa (e':=[(3,_)]) (by exact ⟨m,s',rfl,⟨by omega,by rw [show ls.length -m=ls.length -(m+1)+1 by omega,Bn G];exact U⟩,rfl,rfl⟩)
 have W:k=0:=by omega
 subst W;rw [S5,Hx (by rw [RO];exact CI _)]at B;refine BD<|Zt<|Zt<|AV<|Ce V results136 (by exact ⟨s,V,B⟩)
def GQ(sh:List Int)(cap:Int)(L:List Bf)(K:Bk)(t sz:Int):List Bf×List Bf:=EZ sh cap t sz (L.filter fun y=>y.key≠K).length (L.filter fun y=>y.key≠K)
variable{L:List Bf}{K:Bk}
theorem Qm(h:∀e∈L,e.key≠K):(L.filter fun y=>y.key≠K)=L:=cN.2 fun y g=>DG (h y g)
theorem XD{α:Type}(l:List α)(x:α):(l++[x]).reverse=x::l.reverse:=by rw [mB];rfl
variable{mb ns ck:Nat}{z:BS}{es:Array MapEntry}{lm:List (Bk×A4)}{su:List A9}
theorem Kk{ys:List Bf}{G z1:BS}{A B m:List Bf}{x:Bf}(h:UE ns mb ys z1 (A++x::B) G m)(g:CK z1 ns (A++x::B) mb es ck lm su)(I:ym z x z1):UE ns mb (x::ys) z (A++B) G m:=⟨A,B,z1,rfl,I,⟨es,ck,lm,su,g⟩,h⟩
theorem Tw{α:Type}{f:α->Bool}{L:List α}{x:α}(h:L.find? f=some x):∃A B,L=A++x::B:=Wf (cy h)
theorem og{g:List Bf}{pre post:List (Nat×Bf)}{x:Nat×Bf}(h:bwd g=pre++x::post){ys:List Bf}(B:g.reverse=pre.map (·.2)++ys):ys=x.2::post.map (·.2):=by
 have m:=Jn g;rw [h,C0,Dd]at m;exact List.append_cancel_left (B.symm.trans m.symm)
theorem WA{sh:List Int}{cap t sz:Int}:∀(n:Nat) (L:List Bf),∀e∈(EZ sh cap t sz n L).1,e∈L
 |0,L,e,he=>he
 |n+1,L,e,he=>by
  unfold EZ at he;split at he
  · split at he
    · exact he
    · exact (Fc.1 (WA n _ e he)).1
  · exact he
variable{sh:List Int}{k:Nat}{sz:Int}
set_option maxHeartbeats 1000000 in
theorem rM(l9:CK z ns L mb es ck lm su){MS:List A9}(T9:Jr MS z.sh sh)(Ta:sh.length=ns)(Qe:∀x∈sh,0<=x/\x<=1000000)(hd:z.bl.Nodup)(hL:L.length<=1000000)(hk:k<ns)(Rl:1<=sz/\sz<=1000000)(K:Bk):BR prog 39 #[.pointer (some ⟨z.r,0,none⟩),I4 (k:Int),.string K,I4 sz] [z.S,[(mb,.map es ck)],su,MS] (fun v H'=>(z.cap -Fj (GQ sh z.cap L K (k:Int) sz).1<sz/\v= .tuple #[.slice none 0 0,.bool false]/\∃qa q9 wz r9,CK z ns L mb qa q9 wz r9/\H'=[z.S,[(mb,.map qa q9)],r9,MS])\/(¬z.cap -Fj (GQ sh z.cap L K (k:Int) sz).1<sz/\∃ov so,Row 9 ov ((GQ sh z.cap L K (k:Int) sz).2.map fun e=>Value.string e.key) so/\v= .tuple #[ov,.bool true]/\∃z' qa q9 wz r9 b,(z'.r=z.r/\z'.cap=z.cap/\z'.sh=z.sh)/\CK z' ns ((GQ sh z.cap L K (k:Int) sz).1++[⟨b,K,(k:Int),sz⟩]) mb qa q9 wz r9/\H'=[z'.S,[(mb,.map qa q9)],r9,so,MS])):=by
 have hml:=mL;obtain ⟨sha,shc,Gw⟩:=l9.sh;refine DU func39 V ntmps39 V ?_;intro u R;refine Zb [0,1,2,3] ?_;refine A1<|Ze (Bx #[_])<|AG fun bp=>Za Y<|A5 Y<|bH ?_;refine Zq<|A1<|Zl LN Y<|Zv (Bh underlying87 Y Y)<|Zm Y<|Ah (t:=20) Y V (fun gd=>by cases gd)<|fun gd=>Zf Y Y<|Yg (Ay (n:=0) Y Y)<|Zv (AL Y Y)<|Zm Y<|Ao (t:=24) Y V (fun g2=>by omega)<|fun g2=>Zf Y Y<|Yl LN Y<|Yg (Ak Y V)<|Yf 6 HR V rfl aE Y<|Ng Y (IX Wo (z.root)) (BF W8 Y (congrArg some Gw)) V rfl ?_;refine Yg (Ac DE Y)<|Yg (Gi Y Y)<|Zv (AL Y Y)<|Zm Y<|Ao (t:=33) Y V (fun g3=>by omega)<|fun g3=>Zf Y Y<|Yg (EH Y Y)<|Zv (AL Y Y)<|Z0<|Zn [1,2,3,4,36] ?_;refine Zx<|Aw Y (fun g4=>by omega)<|fun g4=>AC<|Zx<|Zq<|Bc<|Zg<|A5 Y<|Zb [10,1,2,3,4] ?_;refine CW (e0:=[(10,_)]) (H0:=[z.S,[(mb,.map es ck)],su,[]]) (fun e H=>∃(z1:BS) (G:List Bf) (U:Array MapEntry) (O:Nat) (cO:List (Bk×A4)) (W:List A9) (ts:List Bf) (tv:A4) (st:List A9),(((z1.r=z.r/\z1.cap=z.cap/\z1.sh=z.sh)/\CK z1 ns G mb U O cO W/\UE ns mb ts.reverse z1 G z L/\Row 155 tv (ts.map fun e=>pV e.b) st/\ts.length+G.length<=L.length)/\G=(L.filter fun y=>y.key≠K))/\e=[(10,tv)]/\H=[z1.S,[(mb,.map U O)],W,st]) Wp ?hx_1 ?hy_1
 case hx_1=>
  refine A1<|Zl LN Y<|Zp Y V<|Zh 8 HR V rfl ee Y<|CS (IX Wo (z.root)) (BF isAgg154 Y (congrArg some l9.mv)) V rfl<|Zm Y<|Zo Wh (EU (Dt HA (D:=fun _=>True)) ft gC l9.map (fun _ _=>trivial) (trivial) (⟨V,V⟩) Y Y)<|Zm Y<|Zd Y V<|Zd Y V<|Za Y<|A5 Y<|A1<|Zm Y<|A6<|AU Y (fun g7=>?_) (fun g7=>?_);·
   obtain ⟨A,y,B,sj,Tp,hg⟩:∃A y B,L=A++y::B/\y.key=K/\Dp K lm=some (pV y.b):=by
    rcases l9.find K with⟨h9,_⟩|h9
    · rw [h9]at g7;simp at g7
    · exact h9
   have af:=l9;rw [sj]at af;rw [hg,fN];refine A1<|Zl LN Y<|Zm Y<|Zc [_,_] Y call81 Y V (V5 af hd) ?_;rintro _ _ ⟨_,⟨rfl,z9,l8,l5,o8,o9,⟨qx,qj,za,kv⟩,qb,j3,rfl⟩,rfl⟩;refine Z0<|Zn [1,2,3,4,10,11] ?_;refine Zx<|Bc<|Zg<|Zm Y<|Zm Y<|Ze (Ai (vs:=[_]) (cs:=[_]) cE H4 gC Y V rfl V rfl V)<|AG fun b2=>Ze (Dj (by_:=8) (news:=[_]) cE (V:Tryz.prog.info? 155=some Tryz.t155) V rfl V rfl Y (Gs 155) Y Wo Wh B0 V Ft B1 B1 B1) ?_;rintro _ _ ⟨y5,J,rfl⟩;obtain ⟨ve,sO,rfl⟩:=J.form;refine AW Y<|Zn [10,1,2,3,4] ?_;refine Av (e':=[(10,_)]) (by exact ⟨z9,A++B,l8,l5,o8,o9,[y],_,_,⟨⟨⟨qx,qj,kv⟩,j3,(by rw [sj];exact Kk (ys:=[]) ⟨rfl,rfl⟩ af qb),J,by rw [sj];simp;omega⟩,(by rw [sj,<-Tp];exact (LC af.keys).symm)⟩,rfl,rfl⟩)
  have P7:∀e∈L,e.key≠K:=by
   rcases l9.find K with⟨_,h9⟩|⟨A,y,B,_,_,h9⟩
   · exact h9
   · rw [h9]at g7;simp at g7
  refine AC<|Zn [10,1,2,3,4] ?_;refine Av (e':=[(10,_)]) (by exact ⟨z,L,es,ck,lm,su,[],.slice none 0 0,[],⟨⟨⟨V,V,V⟩,l9,⟨V,V⟩,Gs _,by simp⟩,(Qm P7).symm⟩,V,V⟩)
 rintro _ _ ⟨z1,G,U,O,cO,W,ts,tv,st,⟨⟨⟨d9,Z,X⟩,g,gq,gm,gy⟩,zf⟩,rfl,rfl⟩;refine A1<|A5 Y<|Zq<|bI<|Zx<|Zb [10,13,1,2,3,4] ?_;refine CW (e0:=[(10,_),(13,_)]) (H0:=[z1.S,[(mb,.map U O)],W,st]) (fun e H=>∃(z1:BS) (G:List Bf) (U:Array MapEntry) (O:Nat) (cO:List (Bk×A4)) (W:List A9) (ts:List Bf) (tv:A4) (st:List A9) (ov:A4) (so:List A9),(((z1.r=z.r/\z1.cap=z.cap/\z1.sh=z.sh)/\CK z1 ns G mb U O cO W/\UE ns mb ts.reverse z1 G z L/\Row 155 tv (ts.map fun e=>pV e.b) st/\ts.length+G.length<=L.length)/\G=(GQ sh z.cap L K (k:Int) sz).1/\Row 9 ov ((GQ sh z.cap L K (k:Int) sz).2.map fun e=>Value.string e.key) so)/\e=[(10,tv),(13,ov)]/\H=[z1.S,[(mb,.map U O)],W,st,so]) Wp ?hx_4 ?hy_4
 case hx_4=>
  refine AQ<|Bc<|Zb [10,13,1,2,3,4] ?_;refine BI (e0:=[(10,_),(13,_)]) (fun m e H=>∃(z1:BS) (G:List Bf) (U:Array MapEntry) (O:Nat) (cO:List (Bk×A4)) (W:List A9) (ts:List Bf) (tv:A4) (st:List A9) (dn:List Bf) (ov:A4) (so:List A9),m=G.length/\(((z1.r=z.r/\z1.cap=z.cap/\z1.sh=z.sh)/\CK z1 ns G mb U O cO W/\UE ns mb ts.reverse z1 G z L/\Row 155 tv (ts.map fun e=>pV e.b) st/\ts.length+G.length<=L.length)/\(GQ sh z.cap L K (k:Int) sz).1=(EZ sh z.cap (k:Int) sz G.length G).1/\(GQ sh z.cap L K (k:Int) sz).2=dn++(EZ sh z.cap (k:Int) sz G.length G).2/\Row 9 ov (dn.map fun e=>Value.string e.key) so/\dn.length<=ts.length)/\e=[(10,tv),(13,ov)]/\H=[z1.S,[(mb,.map U O)],W,st,so]) (by exact ⟨z1,G,U,O,cO,W,ts,_,st,[],.slice none 0 0,[],rfl,⟨⟨⟨d9,Z,X⟩,g,gq,gm,gy⟩,by rw [zf];rfl,by rw [zf];rfl,Gs _,C7 _⟩,rfl,rfl⟩) Wp ?_;rintro _ _ _ ⟨z1,G,U,O,cO,W,ts,tv,st,dn,ov,so,rfl,⟨⟨⟨d9,Z,X⟩,g,gq,gm,gy⟩,qo,qw,j5,hdl⟩,rfl,rfl⟩;obtain ⟨tp,tc,rfl⟩:=gm.form;obtain ⟨op9,oc9,rfl⟩:=j5.form;have ek:=z1.root
  rw [d9]at ek;have MP:=g.free
  have zu:=g.free_le;have zy:=g.room
  refine H5 (s:=z1.S) Wo (fun pg=>?_);rw [BS.keys]at pg;refine Zq<|A1<|Zl LN Y<|Zp Y V<|Zh 9 HR V rfl AE Y<|CS (IX Wo (ek)) (BF AH Y B0) V rfl<|Zm Y<|Zv (EH Y Y)<|A6<|Aw Y (fun wo=>?_) (fun wo=>?_);·
   have ql:z.cap -Fj G<sz:=by omega
   refine AC<|Zx<|AQ<|A1<|Zl LN Y<|Zm Y<|Zm Y ?_;have KS:=Y4 g (by rw [X];exact T9) Ta Qe pg A0 hk (m:=sz) A0
   rw [d9]at KS;refine Xr [_,_,_] Y call82 Y V (KS) ?_;rcases hvc:JX sh G (k:Int) sz with _|x
   ·
    have cu:EZ sh z.cap (k:Int) sz G.length G=(G,[]):=gL hvc;refine A5 Y<|Zq<|A1<|Zm Y<|Zv (IG underlying155 Y Y)<|Z0<|Zn [1,2,3,4,10,13,14,65] ?_;refine Zx<|AU Y (fun ic=>?_) (fun ic=>?_);·
     refine BD<|Zt<|Ar V<|Zt<|AV<|Zn [10,13,1,2,3,4] ?_;refine Av (e':=[(10,_),(13,_)]) (by exact ⟨z1,G,U,O,cO,W,ts,_,st,_,so,⟨⟨⟨d9,Z,X⟩,g,gq,gm,gy⟩,by rw [qo,cu],by rw [qw,cu,D2];exact j5⟩,rfl,rfl⟩)
    cases ic
   obtain ⟨A,B,rfl⟩:=Tw hvc;have cu:=gK (cap:=z.cap) g.keys ql hvc
   have P5:(A++x::B).length=(A++B).length+1:=by simp;omega
   refine A5 Y<|Zq<|A1<|Zm Y<|Zv (Bh underlying155 Y Y)<|Z0<|Zn [1,2,3,4,10,13,14,65] ?_;refine Zx<|AU Y (fun ic=>by cases ic)<|fun ic=>AC<|Zx<|A1<|Zl LN Y<|Zm Y ?_;have Hf:=V5 g pg
   rw [d9]at Hf;refine Zc [_,_] Y call81 Y V (Hf) ?_;rintro _ _ ⟨_,⟨rfl,z9,l8,l5,o8,o9,⟨qx,qj,za,kv⟩,qb,j3,rfl⟩,rfl⟩;have FT:=z9.node (e:=x) (by rw [za];exact g.sub x B4)
   refine A6<|BA (n:=13) (0::0::2::7::0::0::32::96::224::480::1023::2047::4095::[]) 1548 AF AF V<|A3 0 V (AO Y)<|A3 1 V (AO Y)<|A3 4 V (AO Y)<|A3 5 V (AO Y)<|A3 6 V (Ak Y V)<|A3 7 V (AA (off:=0) HD V rfl Fm Y)<|Cc (D':=499) 8 V rfl V (Dy Wo (FT)) (BF Hh Y B0) ?_;refine Zz (l:=[2,9])<|B7 [true] [(8,(_,_))] V rfl (Ai (vs:=[_]) (cs:=[_]) cE H4 gC Y V rfl V rfl V) ?_ (fun _ _ h=>h.elim) ?_;·
    rintro _ _ ⟨b4,rfl,rfl⟩;refine ⟨Ev (by simp [*]) (AZ),?_⟩;refine Zz (l:=[3,9])<|B7 [true] [(8,(_,_))] V rfl (Dj (by_:=8) (news:=[_]) cE (V:Tryz.prog.info? 155=some Tryz.t155) V rfl V rfl Y gm Y Wo Wh B0 V Ft B1 (by(simp only [B6];omega)) (by(simp only [B6];omega))) ?hk_8 (fun _ _ h=>h.elim) ?hl_8
    case hk_8=>
     rintro _ _ ⟨y5,J,rfl⟩;refine ⟨Ev (by simp [*]) (AZ),?_⟩;obtain ⟨ve,sO,rfl⟩:=J.form;refine Yw 9 1023 V (Ai (vs:=[_]) (cs:=[_]) DH Fm HS Y V rfl V rfl V)<|AG fun b6=>Yw 10 2047 V (Dj (by_:=16) (news:=[_]) DH (V:Tryz.prog.info? 9=some Tryz.t9) V rfl V rfl Y j5 Y Wo Wh B0 V Ft B1 (by(simp only [B6];omega)) (by(simp only [B6];omega))) ?_;rintro _ _ ⟨Mx,ax,rfl⟩;obtain ⟨yt,y9,rfl⟩:=ax.form;refine A3 11 V (Aq Y)<|A3 12 V (Aq Y)<|Ag<|Zn [1,2,3,4,10,13] ?_;refine A8<|Zn [10,13,1,2,3,4] ?_;refine Aa (e':=[(10,_),(13,_)]) (by exact ⟨z9,A++B,l8,l5,o8,o9,ts++[x],_,_,dn++[x],_,_,rfl,⟨⟨⟨qx,qj.trans Z,kv.trans X⟩,j3,by rw [XD];exact Kk gq g qb,(by rw [C0];exact J),by simp at gy⊢;omega⟩,by rw [qo,cu],by rw [qw,cu,CT];rfl,(by rw [C0];exact ax),by simp;omega⟩,rfl,rfl⟩)
    refine B7 [false] [] V rfl (Ai (vs:=[_]) (cs:=[_]) DH Fm HS Y V rfl V rfl V) ?_ (fun _ _ h=>h.elim) Aj;rintro _ _ ⟨b8,rfl,rfl⟩;refine BW<|Yw 3 1023 V (Dj (by_:=8) (news:=[_]) cE (V:Tryz.prog.info? 155=some Tryz.t155) V rfl V rfl Y gm Y Wo Wh B0 V Ft B1 (by(simp only [B6];omega)) (by(simp only [B6];omega))) ?_;rintro _ _ ⟨y5,J,rfl⟩;obtain ⟨ve,sO,rfl⟩:=J.form;refine Yw 10 2047 V (Dj (by_:=16) (news:=[_]) DH (V:Tryz.prog.info? 9=some Tryz.t9) V rfl V rfl Y j5 Y Wo Wh B0 V Ft B1 (by(simp only [B6];omega)) (by(simp only [B6];omega))) ?_;rintro _ _ ⟨Mx,ax,rfl⟩;obtain ⟨yt,y9,rfl⟩:=ax.form;refine A3 11 V (Aq Y)<|A3 12 V (Aq Y)<|Ag<|Zn [1,2,3,4,10,13] ?_;refine A8<|Zn [10,13,1,2,3,4] ?_;refine Aa (e':=[(10,_),(13,_)]) (by exact ⟨z9,A++B,l8,l5,o8,o9,ts++[x],_,_,dn++[x],_,_,rfl,⟨⟨⟨qx,qj.trans Z,kv.trans X⟩,j3,by rw [XD];exact Kk gq g qb,(by rw [C0];exact J),by simp at gy⊢;omega⟩,by rw [qo,cu],by rw [qw,cu,CT];rfl,(by rw [C0];exact ax),by simp;omega⟩,rfl,rfl⟩)
   refine B7 [false] [] V rfl (Ai (vs:=[_]) (cs:=[_]) DH Fm HS Y V rfl V rfl V) ?_ (fun _ _ h=>h.elim) Aj;rintro _ _ ⟨b11,rfl,rfl⟩;refine BW<|Yw 2 1015 V (Ai (vs:=[_]) (cs:=[_]) cE H4 gC Y V rfl V rfl V)<|AG fun b12=>Yw 3 1023 V (Dj (by_:=8) (news:=[_]) cE (V:Tryz.prog.info? 155=some Tryz.t155) V rfl V rfl Y gm Y Wo Wh B0 V Ft B1 (by(simp only [B6];omega)) (by(simp only [B6];omega))) ?_;rintro _ _ ⟨y5,J,rfl⟩;obtain ⟨ve,sO,rfl⟩:=J.form;refine Yw 10 2047 V (Dj (by_:=16) (news:=[_]) DH (V:Tryz.prog.info? 9=some Tryz.t9) V rfl V rfl Y j5 Y Wo Wh B0 V Ft B1 (by(simp only [B6];omega)) (by(simp only [B6];omega))) ?_;rintro _ _ ⟨Mx,ax,rfl⟩;obtain ⟨yt,y9,rfl⟩:=ax.form;refine A3 11 V (Aq Y)<|A3 12 V (Aq Y)<|Ag<|Zn [1,2,3,4,10,13] ?_;refine A8<|Zn [10,13,1,2,3,4] ?_;refine Aa (e':=[(10,_),(13,_)]) (by exact ⟨z9,A++B,l8,l5,o8,o9,ts++[x],_,_,dn++[x],_,_,rfl,⟨⟨⟨qx,qj.trans Z,kv.trans X⟩,j3,by rw [XD];exact Kk gq g qb,(by rw [C0];exact J),by simp at gy⊢;omega⟩,by rw [qo,cu],by rw [qw,cu,CT];rfl,(by rw [C0];exact ax),by simp;omega⟩,rfl,rfl⟩)
  have cu:EZ sh z.cap (k:Int) sz G.length G=(G,[]):=WB A0;refine BD<|Zt<|Zt<|AV<|Zn [10,13,1,2,3,4] ?_;refine Av (e':=[(10,_),(13,_)]) (by exact ⟨z1,G,U,O,cO,W,ts,_,st,_,so,⟨⟨⟨d9,Z,X⟩,g,gq,gm,gy⟩,by rw [qo,cu],by rw [qw,cu,D2];exact j5⟩,rfl,rfl⟩)
 rintro _ _ ⟨z1,G,U,O,cO,W,ts,tv,st,ov,so,⟨⟨⟨d9,Z,X⟩,g,gq,gm,gy⟩,sw,j5⟩,rfl,rfl⟩;have ek:=z1.root
 rw [d9]at ek;have MP:=g.free
 have zu:=g.free_le;have zy:=g.room
 refine H5 (s:=z1.S) Wo (fun pg=>?_);rw [BS.keys]at pg;refine Zq<|A1<|Zl LN Y<|Zp Y V<|Zh 9 HR V rfl AE Y<|CS (IX Wo (ek)) (BF AH Y B0) V rfl<|Zm Y<|Zv (EH Y Y)<|A6<|Aw Y (fun Cn=>?_) (fun Cn=>?_);·
  have ql:z.cap -Fj (GQ sh z.cap L K (k:Int) sz).1<sz:=by rw [<-sw];omega
  obtain ⟨tp,tc,HZ⟩:=gm.form;rw [B6]at HZ;subst HZ;refine Zq<|A1<|Zm Y<|Zc [_] Y call83 Y V (iI _ _ _) ?_;rintro _ _ ⟨_,⟨bb,rfl,rfl⟩,rfl⟩;refine A6<|AQ<|Zb [4,87] ?_;refine LP (H0:=_) (R:=_) (I:=(fun(pre:List (Nat×Bf)) H=>∃z2 L2 p9 p8 qz pz ys,z2.r=z.r/\ts.reverse=pre.map (·.2)++ys/\UE ns mb ys z2 L2 z L/\CK z2 ns L2 mb p9 p8 qz pz/\H=[z2.S,[(mb,.map p9 p8)],pz,st,[(bp,.cells #[.pointer (some ⟨z.r,0,none⟩)] 87 (0,0))]])) (asg:=fun x=>[(16,pV x.2.b),(89,pV x.2.b),(88,I4 ((x.1:Nat):Int))]) rfl Y call136 (iJ (oF gm) bb A0) (by rintro pre _ c d ⟨z2,L2,p9,p8,qz,pz,ys,_,_,_,_,rfl⟩;intro q hq;simp [hq]) Y rfl Wp (⟨z1,G,U,O,cO,W,ts.reverse,d9,rfl,gq,g,rfl⟩) ?ha_23 ?hbd_23 ?hk_23
  case ha_23=>
   intro _ x _ _;refine Zg<|Za Y<|Z0 ?_;exact jL
  case hbd_23=>
   intro l pre x post u H1 R1 Tg hI;obtain ⟨z2,L2,p9,p8,qz,pz,ys,vz,sM,vo,af,rfl⟩:=hI;obtain rfl:=og Tg sM;obtain ⟨A2,B2,zb,rfl,zi,ME,MK⟩:=vo;have Qd:zb.r=z2.r:=by obtain ⟨_,_,_,_,_,_,e9⟩:=zi;rw [e9]
   refine H5 (s:=z2.S) Wo (fun pq=>?_);rw [BS.keys]at pq;refine AQ<|Zg<|Zl LN Y<|Zm Y ?_;have zl:=oo af pq zi ME
   rw [vz]at zl;refine Zc [_,_] Y call84 Y V (zl) ?_;rintro _ _ ⟨_,⟨rfl,MC,MB,Ty,Y2,Gl,rfl⟩,rfl⟩;refine Z0<|A8<|Eg rfl (by exact ⟨zb,A2++x.2::B2,MC,MB,Ty,Y2,post.map (·.2),Qd.trans vz,by rw [sM,C0,CT];rfl,MK,Gl,rfl⟩)
  intro D1 H2 MJ;obtain ⟨z2,L2,p9,p8,qz,pz,ys,vz,sM,vo,af,rfl⟩:=MJ;have Tm:ys=[]:=by
   have h9:=Jn ts;rw [sM]at h9;exact List.append_cancel_left (h9.symm.trans (D2 _).symm)|>.trans V
  subst Tm;obtain ⟨rfl,rfl⟩:=vo;refine Zn [] ?_;refine A8<|Zx<|A1<|Za Y<|A5 Y<|AJ<|Zt<|Kz ?_;refine Fv V (qm results39 Y Y) Wo (by exact .inl ⟨ql,V,p9,p8,qz,pz,af,V⟩)
 have ql:¬z.cap -Fj (GQ sh z.cap L K (k:Int) sz).1<sz:=by rw [<-sw];omega
 refine AC<|Zx<|A1<|Zm Y<|Zm Y<|Zm Y<|Zv (BM (vs:=[(0,_),(1,_),(2,_)]) (cs:=#[_,_,_,_,_]) Y (AY (pl:=#[(0,1),(1,1),(2,1),(3,1),(4,1)]) zeroValue157 HD (fun _=>by kernel_rfl) V))<|Ze (F5 Y (cs:=#[.string K,I4 (k:Int),I4 sz,.pointer none,.pointer none]) AF)<|AG fun bn=>A5 Y<|Zq ?_;rw [<-d9];have vw:∀x∈G,x.key≠K:=fun x hx=>by
  rw [sw]at hx;simpa using(Fc.1 (WA _ _ x hx)).2
 have hu1:=g.use (k:Int);refine tU (b:=bn) (s:=z1.S) Wo Wo (fun zm=>?_);refine Cb (s1:=z1.S) (s2:=[(bn,_)]) Wo Wo ?_;rw [show z1.S++[(bn,Obj.cells #[.string K,I4 (k:Int),I4 sz,.pointer none,.pointer none] 157 (0,0))]=(z1.more (⟨bn,K,(k:Int),sz⟩:Bf)).S from BS.more_S z1 (⟨bn,K,(k:Int),sz⟩:Bf) zm];refine H5 (s:=(z1.more (⟨bn,K,(k:Int),sz⟩:Bf)).S) Wo (fun pq=>?_);rw [BS.keys]at pq;obtain ⟨p2,Pn,zk,zt,sJ⟩:=rG g pg (⟨bn,K,(k:Int),sz⟩:Bf) zm;refine Zg<|Zm Y<|Zl LN Y<|Zp Y V<|Zh 0 HR V rfl sizeOf159 Y<|Zh 0 dv V rfl cX Y<|Zc [_,_] Y call85 Y V (ZY (z1.more (⟨bn,K,(k:Int),sz⟩:Bf)) pq zt Pn zk) ?_;rintro _ _ ⟨_,⟨rfl,rfl⟩,rfl⟩;refine Z0<|Zn [2,4,13,17] ?_;refine Zx<|A1<|Zl LN Y<|Zp Y V<|Zh 8 HR V rfl ee Y<|CS (IX Wo ((BS.root ({(z1.more (⟨bn,K,(k:Int),sz⟩:Bf))with nx:=Cq (Cq (z1.more (⟨bn,K,(k:Int),sz⟩:Bf)).nx (⟨bn,K,(k:Int),sz⟩:Bf).b (pV (z1.more (⟨bn,K,(k:Int),sz⟩:Bf)).r)) p2 (pV (⟨bn,K,(k:Int),sz⟩:Bf).b),bf:=Cq (Cq (z1.more (⟨bn,K,(k:Int),sz⟩:Bf)).bf (⟨bn,K,(k:Int),sz⟩:Bf).b (pV p2)) (z1.more (⟨bn,K,(k:Int),sz⟩:Bf)).r (pV (⟨bn,K,(k:Int),sz⟩:Bf).b)}:BS)))) (BF isAgg154 Y (congrArg some g.mv)) V rfl<|Zm Y<|Zm Y<|Ze (FH (Dt HA (D:=fun _=>True)) ft g.map (fun _ _=>trivial) (trivial) Y Y Y Wo) ?_;rintro _ _ ⟨rfl,l8,l5,o8,P6,Ps,rfl⟩;refine A6<|A1<|Zl LN Y<|Zm Y<|Zc [_,_,_] Y call86 Y rfl (LH ({(z1.more (⟨bn,K,(k:Int),sz⟩:Bf))with nx:=Cq (Cq (z1.more (⟨bn,K,(k:Int),sz⟩:Bf)).nx (⟨bn,K,(k:Int),sz⟩:Bf).b (pV (z1.more (⟨bn,K,(k:Int),sz⟩:Bf)).r)) p2 (pV (⟨bn,K,(k:Int),sz⟩:Bf).b),bf:=Cq (Cq (z1.more (⟨bn,K,(k:Int),sz⟩:Bf)).bf (⟨bn,K,(k:Int),sz⟩:Bf).b (pV p2)) (z1.more (⟨bn,K,(k:Int),sz⟩:Bf)).r (pV (⟨bn,K,(k:Int),sz⟩:Bf).b)}:BS) pq (e:=(⟨bn,K,(k:Int),sz⟩:Bf)) zt (.inl rfl) g.used (k:=k) rfl (x:=Ck G (k:Int)) (by rw [DP,Ss hk];rfl) A0 (by show 0<=sz/\sz<=_;omega) (by show _<=z1.fr/\z1.fr<=_;omega)) ?_;rintro _ _ ⟨_,⟨rfl,o9,Tc,rfl⟩,rfl⟩;refine A6<|A1<|Zm Y<|Za Y<|AW Y<|Zn [8,9] ?_;refine Zx<|AJ<|Kz ?_
 refine TI rfl (qm results39 Y Y) (by exact .inr ⟨ql,ov,so,j5,rfl,({({(z1.more (⟨bn,K,(k:Int),sz⟩:Bf))with nx:=Cq (Cq (z1.more (⟨bn,K,(k:Int),sz⟩:Bf)).nx (⟨bn,K,(k:Int),sz⟩:Bf).b (pV (z1.more (⟨bn,K,(k:Int),sz⟩:Bf)).r)) p2 (pV (⟨bn,K,(k:Int),sz⟩:Bf).b),bf:=Cq (Cq (z1.more (⟨bn,K,(k:Int),sz⟩:Bf)).bf (⟨bn,K,(k:Int),sz⟩:Bf).b (pV p2)) (z1.more (⟨bn,K,(k:Int),sz⟩:Bf)).r (pV (⟨bn,K,(k:Int),sz⟩:Bf).b)}:BS)with fr:=z1.fr -1*sz}:BS),l8,l5,o8,o9,bn,⟨rfl,Z,X⟩,by rw [<-sw];exact dm g sJ vw P6 Ps rfl hk ⟨Rl.1,by show sz<=z1.fr;omega⟩ Tc,rfl⟩)
theorem U0{sh:List Int}{cap t sz:Int}:∀(n:Nat) (L:List Bf),(L.map (·.key)).Nodup->((EZ sh cap t sz n L).1++(EZ sh cap t sz n L).2).Perm L
 |0,L,_=>by unfold EZ;rw [D2]
 |n+1,L,hn=>by
  unfold EZ;split
  · split
    · rw [D2]
    · rename_i x hx
      obtain ⟨A,B,rfl⟩:=Tw hx;have g:=U0 (sh:=sh) (cap:=cap) (t:=t) (sz:=sz) n (A++B) (by
       rw [C0,Dd]at hn;rw [C0];exact ey (r8 (List.sublist_cons_self _ _) _) hn)
      simp only [LC hn];exact N1.trans ((g.cons x).trans N1.symm)
  · rw [D2]
variable{t cap:Int}
theorem YZ(g:(L.map (·.key)).Nodup)(K:Bk):((GQ sh cap L K t sz).1++(GQ sh cap L K t sz).2).Perm (L.filter fun y=>y.key≠K):=U0 _ _ (ey (List.Sublist.map _ Sp) g)
theorem X6(m:(L.map (·.key)).Nodup)(K:Bk):(GQ sh cap L K t sz).2.length<=L.length:=by
 have g:=(YZ (sh:=sh) (cap:=cap) (t:=t) (sz:=sz) m K).length_eq;have h2:=Of (fun y:Bf=>decide (y.key≠K)) L
 rw [Bm]at g;omega
def KT(sh:List Int)(cap:Int)(L:List Bf)(K:Bk)(t sz:Int):List Bk:=(GQ sh cap L K t sz).2.map (·.key)++[K]
theorem rH(W:(L.map (·.key)).Nodup)(K k:Bk):k∈(GQ sh cap L K t sz).1.map (·.key)↔k∈L.map (·.key)/\k∉KT sh cap L K t sz:=by
 have B:=(YZ (sh:=sh) (cap:=cap) (t:=t) (sz:=sz) W K).map (·.key);have h2:((L.filter fun y=>y.key≠K).map (·.key)).Nodup:=ey (List.Sublist.map _ Sp) W
 have G:=B.nodup_iff.2 h2;rw [C0]at B G;have I:=B.mem_iff (a:=k)
 have U:k∈(L.filter fun y=>y.key≠K).map (·.key)↔k∈L.map (·.key)/\k≠K:=by
  constructor
  · intro h
    obtain ⟨y,O,rfl⟩:=C6.1 h;obtain ⟨g,m⟩:=Fc.1 O;exact ⟨DS g,by simpa using m⟩
  · rintro ⟨g,m⟩
    obtain ⟨y,O,rfl⟩:=C6.1 g;exact DS (Fc.2 ⟨O,by simpa using m⟩)
 rw [GW]at G;unfold KT;rw [C2]at I;rw [C2,C5,not_or];constructor
 · intro h
   obtain ⟨g,m⟩:=U.1 (I.1 (.inl h));exact ⟨g,fun J=>G.2.2 _ h _ J V,m⟩
 · rintro ⟨g,m,J⟩
   exact (I.2 (U.2 ⟨g,J⟩)).resolve_right m
def Ov(ks:List Bk)(its:List ItM):List ItM:=its.filter fun y=>ks.all fun k=>decide (y.key≠k)
theorem sS(its:List ItM):Ov [] its=its:=cN.2 fun y _=>rfl
theorem Z9(g:List Bk)(its:List ItM):(Ov g its).length<=its.length:=Of _ _
variable{its:List ItM}
theorem Ky{g:List Bk}{y:ItM}:y∈Ov g its↔y∈its/\y.key∉g:=by
 unfold Ov;rw [Fc,Lq];exact ⟨fun h=>⟨h.1,fun m=>HO (h.2 _ m) V⟩,fun h=>⟨h.1,fun k B=>DG fun e=>h.2 (e▸B)⟩⟩
theorem mE(g:List Bk)(k:Bk)(its:List ItM):(Ov g its).filter (fun y=>y.key≠k)=Ov (g++[k]) its:=by
 unfold Ov;rw [List.filter_filter];refine dd fun y _=>?_;rw [List.all_append,Bool.and_comm];simp
theorem rn{PL:List Bf}(I:(PL.map (·.key)).Nodup)(G:∀k,k∈PL.map (·.key)↔k∈its.map ItM.key)(K:Bk):∀k,k∈(GQ sh cap PL K t sz).1.map (·.key)↔k∈(Ov (KT sh cap PL K t sz) its).map ItM.key:=fun k=>by
 rw [rH I K k,G k];constructor
 · rintro ⟨g,h2⟩
   obtain ⟨y,m,rfl⟩:=C6.1 g;exact DS (Ky.2 ⟨m,h2⟩)
 · intro g
   obtain ⟨y,m,rfl⟩:=C6.1 g;obtain ⟨h2,B⟩:=Ky.1 m;exact ⟨DS h2,B⟩
def tnE(c:CZ)(K:Bk)(k:Int):Int:=((c.its.find? fun y=>y.key=K).map ItM.tn).getD k
variable{c:CZ}
theorem Wj{k:Int}(h:∀y∈c.its,y.key≠K):tnE c K k=k:=by
 unfold tnE;rw [cP.2 fun y g=>by simpa using h y g];rfl
theorem iY(G:(c.its.map ItM.key).Nodup){k:Int}{x:ItM}(m:x∈c.its)(g:x.key=K):tnE c K k=x.tn:=by
 unfold tnE;cases h:c.its.find? fun y=>y.key=K with
 |none=>exact absurd g (by simpa using cP.1 h x m)
 |some y=>
  have B:=cy h;have h2:y.key=K:=by simpa using dp h
  rw [Ga G B m (h2.trans g.symm)];rfl
def UF(c:CZ)(sh:List Int):Prop:=Jr c.M c.z.sh sh/\sh.length=c.ns/\∀x∈sh,0<=x/\x<=1000000
theorem UF.of{d:CZ}(h:UF c sh)(m:d.ns=c.ns)(hc:d.z.cs=c.z.cs)(g:∀q∈c.M,q∈d.M):UF d sh:=⟨by rw [show d.z.sh=c.z.sh from congrArg Prod.snd hc];exact h.1.mono g,by rw [m];exact h.2.1,h.2.2⟩
theorem xH{e:AM}{xs:List A4}{v:A4}{s:List A9}(h:Row e v xs s){n:Nat}(B:xs.length=n)(h0:0<n):∃g cap cur z,v=I6 g n cap/\s=[(g,.cells cur e z)]/\n<=cur.size/\∀i,i<n->cur[i]?=xs[i]?:=by
 subst B;rcases h with⟨_,m,_⟩|⟨g,cap,cur,z,rfl,rfl,m,h2,h3,h4,h5⟩
 · rw [m]at h0;cases h0
 · refine ⟨g,cap,cur,z,rfl,rfl,by omega,fun i hi=>?_⟩
   have h:=congrArg (fun l=>l[i]?) h4;simp only [HI,Ax hi]at h;simpa using h
theorem gI{cp r ip mi mk mq:Nat}{pos:Int}{wv:A4}{next:Int}{esQ:Array MapEntry}{ckQ:Nat}{lmQ:List (Int×A4)}{lv:A4}{ML:List A9}{esI:Array MapEntry}{ckI:Nat}{lmI:List (Bk×A4)}{esK:Array MapEntry}{ckK:Nat}{lmK:List (Int×A4)}{SI:List A9}(h:GK its next esQ ckQ lmQ lv ML esI ckI lmI esK ckK lmK SI)(K:Bk):BR prog 41 #[I5 cp,.string K] [[(cp,.cells #[I4 pos,wv,I5 r,I5 ip,.map (some mi),.map (some mk),I4 next] 95 (0,0))],[(ip,.cells #[.map (some mq),lv] 165 (0,0))],[(mq,.map esQ ckQ)],[(mi,.map esI ckI)],[(mk,.map esK ckK)],SI] (fun v H'=>∃Z af J B X G g U I m W,(∃b,v= .bool b)/\GK (its.filter fun y=>y.key≠K) next J B X Z af G g U I m W SI/\H'=[[(cp,.cells #[I4 pos,wv,I5 r,I5 ip,.map (some mi),.map (some mk),I4 next] 95 (0,0))],[(ip,.cells #[.map (some mq),Z] 165 (0,0))],[(mq,.map J B)],[(mi,.map G g)],[(mk,.map I m)],SI]):=by
 by_cases hx:∃x∈its,x.key=K
 · obtain ⟨x,hx,rfl⟩:=hx
   refine (Vv h hx).mono ?_;rintro v H' ⟨rfl,e1,e2,e3,e4,e5,e6,e7,e8,e9,h1,rfl⟩;exact ⟨_,_,e1,e2,e3,e4,e5,e6,e7,e8,e9,⟨_,V⟩,h1,V⟩
 · have O:∀y∈its,y.key≠K:=fun y hy hk=>hx ⟨y,hy,hk⟩
   refine EJ (nZ (cp:=cp) (r:=r) (ip:=ip) (mi:=mi) (mk:=mk) (pos:=pos) (wv:=wv) h O) (([(ip,.cells #[.map (some mq),lv] 165 (0,0))]:List A9)++([(mq,.map esQ ckQ)]:List A9)++([(mk,.map esK ckK)]:List A9)++(SI:List A9)++[]) (Bw fun f hf=>by simp only [CA,Fi,D2,hf]<;>omega) ?_;rintro v H' ⟨rfl,rfl⟩;exact ⟨_,⟨lv,ML,_,_,_,_,_,_,_,_,_,⟨_,rfl⟩,by rw [aS O];exact h,rfl⟩,Bw fun f hf=>by simp only [CA,Fi,D2,hf]<;>omega⟩
theorem lI(G:CK z ns L mb es ck lm su){B:List A9}(O:Jr B z.sh sh)(U:sh.length=ns)(I:∀x∈sh,0<=x/\x<=1000000)(X:z.bl.Nodup)(W:L.length<=1000000)(Z:k<ns)(J:1<=sz/\sz<=1000000)(K:Bk):BR prog 39 #[.pointer (some ⟨z.r,0,none⟩),I4 (k:Int),.string K,I4 sz] [z.S,[(mb,.map es ck)],su,B]
 (fun v H'=>∃(m:B8) (on g:Nat) (so:List A9) (fb:Bool) (z':BS) (es':Array MapEntry) (ck':Nat) (lm':List (Bk×A4)) (su':List A9) (b:Nat),v= .tuple #[.slice m on g,.bool fb]/\(z'.r=z.r/\z'.cs=z.cs)/\((fb=false/\z.cap -Fj (GQ sh z.cap L K (k:Int) sz).1<sz/\CK z' ns L mb es' ck' lm' su')\/(fb=true/\¬z.cap -Fj (GQ sh z.cap L K (k:Int) sz).1<sz/\Row 9 (.slice m on g) ((GQ sh z.cap L K (k:Int) sz).2.map fun e=>Value.string e.key) so/\CK z' ns ((GQ sh z.cap L K (k:Int) sz).1++[⟨b,K,(k:Int),sz⟩]) mb es' ck' lm' su'))/\H'=[z'.S,[(mb,.map es' ck')],su',so,B]):=by
 refine EJ (rM G O U I X W Z J K) [] B4 ?_;rintro v H' (⟨h1,rfl,es',ck',lm',su',h2,rfl⟩|⟨h1,ov,so,h2,rfl,z',es',ck',lm',su',b,⟨h3,h4,h5⟩,h6,rfl⟩);· exact ⟨_,⟨none,0,0,[],false,z,es',ck',lm',su',0,rfl,⟨rfl,rfl⟩,.inl ⟨rfl,h1,h2⟩,rfl⟩,by simp⟩
 · obtain ⟨m,g,rfl⟩:=h2.form
   exact ⟨_,⟨m,_,g,so,true,z',es',ck',lm',su',b,rfl,⟨h3,by unfold BS.cs;rw [h4,h5]⟩,.inr ⟨rfl,h1,h2,h6⟩,rfl⟩,by simp⟩
variable{q:QM}{pg:B8}{cg:Nat}{ME:List A9}
set_option maxHeartbeats 1000000 in
theorem rh(h:c.ok)(B:BK q)(hk:k<c.ns)(zl:k<=1000000)(base:Int)(hb:0<=base/\base<=10000){L:List RP}(hL:GI ME (.slice pg L.length cg) L)(o9:L.length<=1000000)(Z:∀x∈L,x.fits){r0:CB}(j3:Eo q L=some r0)(qz:(c.pos -base).toNat<=c.win.length)(O:(BB q r0 base (Cy c.pos base c.win)).2.2=true)(zu:c.next<1000000000)(qo:∀x∈c.its,x.key=(str (Bi q))->x.base<base)(MP:c.its.length<500)(Gl:UF c sh)(Tp:AM)(zp:Nat×Nat):BR prog 13 #[.pointer (some ⟨c.cp,0,none⟩),.agg #[I4 q.kd,I4 q.tb,I4 q.cl,I4 q.lo,I4 q.hi,I4 q.bq,I4 q.ot,I4 (k:Int),I4 base,.slice pg L.length cg]] [[(c.cp,.cells #[I4 c.pos,.slice c.wq c.win.length c.wc,.pointer (some ⟨c.z.r,0,none⟩),.pointer (some ⟨c.ip,0,none⟩),.map (some c.mi),.map (some c.mkb),I4 c.next] 95 (0,0))],c.sW,c.z.S,[(c.mb,.map c.esP c.ckP)],c.su,[(c.ip,.cells #[.map (some c.mq),c.lv] 165 (0,0))],[(c.mq,.map c.esQ c.ckQ)],c.ML,[(c.mi,.map c.esI c.ckI)],[(c.mkb,.map c.esK c.ckK)],c.SI,c.M,c.MR,ME,[(1,.cells (Lib.pow10Tab.map fun z=>Value.int .u64 z).toArray Tp zp)]] (fun w H'=>(c.z.cap -Fj (GQ sh c.z.cap c.PL (str (Bi q)) (tnE c (str (Bi q)) (k:Int)) (1+((BB q r0 base (Cy c.pos base c.win)).1.rows.length:Int))).1<(1+((BB q r0 base (Cy c.pos base c.win)).1.rows.length:Int))/\w= .bool false/\∃d:CZ,d.ok/\c.like d/\d.next=c.next/\d.M=c.M/\d.its=c.its/\d.PL=c.PL/\H'=[[(d.cp,.cells #[I4 d.pos,.slice d.wq d.win.length d.wc,.pointer (some ⟨d.z.r,0,none⟩),.pointer (some ⟨d.ip,0,none⟩),.map (some d.mi),.map (some d.mkb),I4 d.next] 95 (0,0))],d.sW,d.z.S,[(d.mb,.map d.esP d.ckP)],d.su,[(d.ip,.cells #[.map (some d.mq),d.lv] 165 (0,0))],[(d.mq,.map d.esQ d.ckQ)],d.ML,[(d.mi,.map d.esI d.ckI)],[(d.mkb,.map d.esK d.ckK)],d.SI,d.M,d.MR,ME,[(1,.cells (Lib.pow10Tab.map fun z=>Value.int .u64 z).toArray Tp zp)]])\/(¬c.z.cap -Fj (GQ sh c.z.cap c.PL (str (Bi q)) (tnE c (str (Bi q)) (k:Int)) (1+((BB q r0 base (Cy c.pos base c.win)).1.rows.length:Int))).1<(1+((BB q r0 base (Cy c.pos base c.win)).1.rows.length:Int))/\w= .bool true/\∃(d:CZ) (b b9:Nat) (rq wq:B8) (rc wc:Nat) (s:List A9),d.ok/\c.like d/\d.next=c.next+1/\d.M=s++c.M/\d.its=Ov (KT sh c.z.cap c.PL (str (Bi q)) (tnE c (str (Bi q)) (k:Int)) (1+((BB q r0 base (Cy c.pos base c.win)).1.rows.length:Int))) c.its++[(Mm b (c.next+1) q (tnE c (str (Bi q)) (k:Int)) base rq rc L (BB q r0 base (Cy c.pos base c.win)) wq wc)]/\d.PL=(GQ sh c.z.cap c.PL (str (Bi q)) (tnE c (str (Bi q)) (k:Int)) (1+((BB q r0 base (Cy c.pos base c.win)).1.rows.length:Int))).1++[⟨b9,(str (Bi q)),(tnE c (str (Bi q)) (k:Int)),(1+((BB q r0 base (Cy c.pos base c.win)).1.rows.length:Int))⟩]/\H'=[[(d.cp,.cells #[I4 d.pos,.slice d.wq d.win.length d.wc,.pointer (some ⟨d.z.r,0,none⟩),.pointer (some ⟨d.ip,0,none⟩),.map (some d.mi),.map (some d.mkb),I4 d.next] 95 (0,0))],d.sW,d.z.S,[(d.mb,.map d.esP d.ckP)],d.su,[(d.ip,.cells #[.map (some d.mq),d.lv] 165 (0,0))],[(d.mq,.map d.esQ d.ckQ)],d.ML,[(d.mi,.map d.esI d.ckI)],[(d.mkb,.map d.esK d.ckK)],d.SI,d.M,d.MR,ME,[(1,.cells (Lib.pow10Tab.map fun z=>Value.int .u64 z).toArray Tp zp)]])):=by
 have Pn:=mL;have ql:=h.its.len_eq.length_eq
 rw [B6,B6]at ql;have P6:c.PL.length=c.its.length:=by
  have h2:(c.PL.map (·.key)).Perm (c.its.map ItM.key):=(OS h.pool.keys h.its.keys).2 h.pk;have h3:=h2.length_eq
  rwa [B6,B6]at h3
 obtain ⟨za,zb,zf⟩:=Gl;obtain ⟨MC,kv⟩:∃t,t=(tnE c (str (Bi q)) (k:Int)):=⟨_,rfl⟩;rw [<-kv];have Ps:(BB q r0 base (Cy c.pos base c.win)).1.rows.length<=900000:=by
  obtain ⟨_,Cn,FT⟩:=OL j3;have Qe:=h.wl
  have P7:(Cy c.pos base c.win).length<=64:=by unfold Cy;rw [CH];omega
  have h9:=RJ _ 0 (r0,base) _ 1000000000000000000 200 (SL O) (fun y g=>by have:=Rb h.tookb (r:=y) (KB g);omega) FT B1 Cn;have MS:(BB q r0 base (Cy c.pos base c.win)).1.rows.length<=_:=h9.2
  omega
 refine Se func13 ntmps13 [0,1] ?_;intro u R;refine A1<|Ze (Bx #[I4 q.kd,I4 q.tb,I4 q.cl,I4 q.lo,I4 q.hi,I4 q.bq,I4 q.ot,I4 (k:Int),I4 base,.slice pg L.length cg])<|AG fun be=>A5 Y<|Zq<|A1<|Zm Y<|Zv (Bh RE Y Y)<|A6<|AU Y (fun pq=>by cases pq)<|fun pq=>AC<|Zx<|A1<|Zm Y<|Zo Wh (AB (cs:=#[I4 q.kd,I4 q.tb,I4 q.cl,I4 q.lo,I4 q.hi,I4 q.bq,I4 q.ot,I4 (k:Int),I4 base,.slice pg L.length cg]) Tl HG Y Wn (BN V))<|Zc [_,_] Y call38 Y V (X8 h B (k:Int) base hb hL o9 Z j3 qz Tp zp) ?_;rintro _ _ ⟨_,⟨b,rq,rc,wq,wc,s1,s2,rfl,y9,yt,rfl⟩,rfl⟩;rw [O];refine Zm Y<|Zd Y V<|Zd Y V<|Zd Y V<|Za Y<|Za Y<|AW Y<|Zn [0,3,5,6,7] ?_;refine Zx<|Zq<|A1<|Zm Y<|Zv (Bt Y)<|A6<|AU Y (fun p9=>by cases p9)<|fun p9=>AC<|Zx<|A1<|Zm Y<|Zp Y V<|Zh 4 Fl V rfl RK Y<|Zl ON Y<|Zm Y<|Zo Wh (EU (Dt HA (D:=fun _=>True)) RC W4 h.its.im (fun _ _=>trivial) (trivial) (⟨V,V⟩) Y Y)<|Zm Y<|Zd Y V<|Zd Y V<|Za Y<|AW Y<|Zn [0,3,5,6,8,9] ?_;refine Zx<|Zb [3,8,9,0,5,6] ?_;refine CW (e0:=[(3,_),(8,_),(9,_)]) (H0:=[[(b,.cells #[I4 q.kd,I4 q.tb,I4 q.cl,I4 q.lo,I4 q.hi,I4 q.bq,I4 q.ot,I4 (k:Int),I4 base,.slice rq L.length rc,I4 0,.slice wq (BB q r0 base (Cy c.pos base c.win)).1.rows.length wc,I4 (BB q r0 base (Cy c.pos base c.win)).1.val,.bool (BB q r0 base (Cy c.pos base c.win)).1.fnd,I4 (BB q r0 base (Cy c.pos base c.win)).2.1] 121 (0,0))]]) (fun e H=>∃(k9:Nat),(MC=(k9:Int)/\k9<c.ns/\k9<=1000000)/\e=[]/\H=[[(b,.cells #[I4 q.kd,I4 q.tb,I4 q.cl,I4 q.lo,I4 q.hi,I4 q.bq,I4 q.ot,I4 (k9:Int),I4 base,.slice rq L.length rc,I4 0,.slice wq (BB q r0 base (Cy c.pos base c.win)).1.rows.length wc,I4 (BB q r0 base (Cy c.pos base c.win)).1.val,.bool (BB q r0 base (Cy c.pos base c.win)).1.fnd,I4 (BB q r0 base (Cy c.pos base c.win)).2.1] 121 (0,0))]]) Wp ?hx_1 ?hy_1
 case hx_1=>
  refine AQ<|Zq<|BA (n:=12) (0::1::3::7::15::31::63::3::131::511::1023::2047::[]) 0 AF AF V<|A3 0 V (AO Y)<|A3 1 V (AO Y)<|CU (t:=36) Y (fun g1=>?_) (fun g1=>?_);·
   rw [g1];obtain ⟨x,hx,l5⟩:∃x∈c.its,x.key=(str (Bi q)):=by
    refine aq fun h9=>?_;rw [h.its.none fun y g hk=>h9 ⟨y,g,hk⟩]at g1;cases g1
   have hg:=h.its.get hx;rw [l5]at hg;rw [hg];have Rl:=qo x hx l5
   have r9:=h.all x hx;have T9:=h.tns x hx
   obtain ⟨k2,qb⟩:∃k2:Nat,x.tn=(k2:Int):=⟨x.tn.toNat,by have:=r9.tn;omega⟩;have pz:(x.b,Obj.cells #[I4 x.q.kd,I4 x.q.tb,I4 x.q.cl,I4 x.q.lo,I4 x.q.hi,I4 x.q.bq,I4 x.q.ot,I4 x.tn,I4 x.base,.slice x.rq x.L.length x.rc,I4 x.id,.slice x.wq x.res.rows.length x.wc,I4 x.res.val,.bool x.res.fnd,I4 x.since] 121 (0,0))∈c.SI:=h.its.sub x hx
   refine An 2 V (AO Y)<|An 3 V (Ak Y V)<|An 4 V (AA (off:=0) Hs V rfl HG Y)<|An 5 V (AA (off:=8) GB V rfl AE Y)<|Iz (D':=127) 6 Y V rfl V (Dy Wo (pz)) (BF AH Y B0) ?_;refine An 7 V (AA (off:=8) GB V rfl AE Y)<|DO 8 V Wh (BF AH Y B0)<|An 9 V (Gj Y Y)<|A3 10 V (AX Y Y)<|A3 11 V (Aq Y)<|Ag<|Zx<|Aw Y (fun h3=>by omega)<|fun h3=>A1<|Zm Y<|AW Y<|Zn [0,5,6,8,46] ?_;refine Zx<|AU Y (fun h4=>?_) (fun h4=>?_);·
    refine Zg<|Zm Y<|Zm Y<|Zp Y V<|Zh 0 Hs V rfl HG Y<|Zh 7 GB V rfl AE Y<|CS (IX Wo (pz)) (BF AH Y B0) V rfl<|Zp Y V<|Zh 0 Hs V rfl HG Y<|Zh 7 GB V rfl AE Y<|Xe (Zs AE Y Y V (hi:=by(simp;done)))<|Z0<|A8<|Zn [0,5,6] ?_;refine Av (e':=[]) (by exact ⟨k2,⟨(kv.trans (iY h.its.keys hx l5)).trans qb,by omega,by have:=r9.tn;omega⟩,rfl,by rw [<-qb]⟩)
   cases h4
  rw [g1];have zt:∀y∈c.its,y.key≠(str (Bi q)):=fun y g hk=>by
   have hg:=h.its.get g;rw [hk]at hg;rw [hg]at g1;cases g1
  refine AN 2 V<|AN 3 V<|AN 4 V<|AN 5 V<|AN 6 V<|AN 7 V<|AN 8 V<|AN 9 V<|A3 10 V (AL Y Y)<|A3 11 V (Aq Y)<|Ag<|Zx<|D9 Y<|A1<|Zm Y<|AW Y<|Zn [0,5,6,8,46] ?_;refine Zx<|AU Y (fun h4=>by cases h4)<|fun h4=>A1<|Zm Y<|Zp Y V<|Zh 4 Fl V rfl RK Y<|Zl ON Y<|Zo Wh (Q9 RC h.its.im Y)<|Zv (Gi (n:=500) Y Y)<|A5 Y<|Aw Y (fun h5=>by omega)<|fun h5=>AC<|A8<|Zn [0,5,6] ?_;refine Av (e':=[]) (by exact ⟨k,⟨kv.trans (Wj zt),hk,zl⟩,V,V⟩)
 rintro _ _ ⟨k9,⟨rfl,zm,MK⟩,rfl,rfl⟩;refine H5 (s:=c.z.S) Wo (fun hd=>?_);rw [BS.keys]at hd;refine Zq<|BA (n:=21) (0::1::3::7::0::16::48::112::240::0::0::1024::3072::7168::15360::32767::65535::131071::131071::262143::1048575::[]) 49152 AF AF V<|A3 0 V (AO Y)<|A3 1 V (Ak Y V)<|A3 2 V (AA (off:=2) Fl V rfl sizeOf87 Y)<|BE 3 V LN Y<|A3 4 V (AO Y)<|A3 5 V (Ak Y V)<|A3 6 V (AA (off:=0) Hs V rfl HG Y)<|A3 7 V (AA (off:=7) GB V rfl AE Y)<|BE 8 V AH Y<|A3 9 V (AO Y)<|A3 10 V (AO Y)<|A3 11 V (Ak Y V)<|A3 12 V (AA (off:=11) Hs V rfl B9 Y)<|FG 13 V Wh (AB (cs:=#[_,_,_]) Cd B9 Y B5 (by exact (by apply I2.1;rfl)))<|Yz 14 15360 32767 [13,8,3] [false,true,true] [(8,(_,_)),(3,(_,_))] V Y V rfl V rfl (Zu [_] Y call40 Y V (gM wq (BB q r0 base (Cy c.pos base c.win)).1.rows.length wc (I4 (BB q r0 base (Cy c.pos base c.win)).1.val) (.bool (BB q r0 base (Cy c.pos base c.win)).1.fnd) ⟨V,V⟩ ⟨V,V⟩ A0))<|Cp<|BW<|Zz (l:=[15])<|B7 [false,false] [] V rfl (Zw [_,_,_,_] Y call39 Y V (lI h.pool za zb zf hd A0 zm (sz:=(1+((BB q r0 base (Cy c.pos base c.win)).1.rows.length:Int))) ⟨by omega,by omega⟩ (str (Bi q)))) ?_ Bv Aj;rintro _ _ ⟨_,⟨Ty,Tg,Tc,so,fb,z2,ep2,cp2,lp2,su2,bp,rfl,⟨qx,X⟩,p8,rfl⟩,rfl⟩;refine BW<|A3 16 V (AO Y)<|A3 17 V (CE Y V)<|A3 18 V (CE Y V)<|A3 19 V (Aq Y)<|A3 20 V (Aq Y)<|Ag<|Zn [0,5,6,10,11] ?_;refine Zx<|Zq<|A1<|Zm Y<|Zv (Bt Y)<|A6<|AU Y (fun G=>?_) (fun G=>?_);·
  obtain ⟨_,qa,J⟩:=p8.resolve_right fun h9=>by rw [h9.1]at G;cases G
  refine A1<|A5 Y<|AJ<|Zt<|AP V results13 Y (by
   refine .inl ⟨qa,V,({c with z:=z2,esP:=ep2,ckP:=cp2,lmP:=lp2,su:=su2}:CZ),⟨⟨h.pos,h.win,h.wl,h.wp,J,h.pk,h.its,h.tns⟩,h.all⟩,⟨V,V,V,V,X⟩,V,V,V,V,?_⟩;simp only [qx];rfl)
 obtain ⟨_,gm,qw,J⟩:=p8.resolve_left fun h9=>by rw [h9.1]at G;cases G
 obtain ⟨Tm,Ta,zy⟩:=qw.form;injection zy with _ hon _
 subst hon;refine AC<|Zx<|Zq<|Zq<|Bc<|Zg<|Zm Y<|Zm Y<|Ze (Ai (vs:=[_]) (cs:=[_]) DH Fm HS Y V rfl V rfl V)<|AG fun ga=>Ze (Dj (by_:=16) (news:=[_]) DH (V:Tryz.prog.info? 9=some Tryz.t9) V rfl V rfl Y qw Y Wo Wh B0 V Ft B1 (by(simp only [B6];have:=X6 (sh:=sh) (cap:=c.z.cap) (t:=(k9:Int)) (sz:=(1+((BB q r0 base (Cy c.pos base c.win)).1.rows.length:Int))) h.pool.keys (str (Bi q));omega)) (by(simp only [B6];have:=X6 (sh:=sh) (cap:=c.z.cap) (t:=(k9:Int)) (sz:=(1+((BB q r0 base (Cy c.pos base c.win)).1.rows.length:Int))) h.pool.keys (str (Bi q));omega))) ?_;rintro _ _ ⟨sq,j5,rfl⟩;obtain ⟨gq,cq,rfl⟩:=j5.form;obtain ⟨U,ek⟩:∃ks,ks=(KT sh c.z.cap c.PL (str (Bi q)) (k9:Int) (1+((BB q r0 base (Cy c.pos base c.win)).1.rows.length:Int))):=⟨_,rfl⟩;have y5:((GQ sh c.z.cap c.PL (str (Bi q)) (k9:Int) (1+((BB q r0 base (Cy c.pos base c.win)).1.rows.length:Int))).2.map fun e=>Value.string e.key)++[Value.string (str (Bi q))]=U.map Value.string:=by rw [ek];unfold KT;rw [C0,K0];rfl
 rw [y5]at j5;have wz:(List.map (fun e=>Value.string e.key) (GQ sh c.z.cap c.PL (str (Bi q)) (k9:Int) (1+((BB q r0 base (Cy c.pos base c.win)).1.rows.length:Int))).2).length+1=U.length:=by rw [ek];unfold KT;rw [Bm,B6,B6];rfl
 have P5:U.length<=1000:=by rw [<-wz,B6];have:=X6 (sh:=sh) (cap:=c.z.cap) (t:=(k9:Int)) (sz:=(1+((BB q r0 base (Cy c.pos base c.win)).1.rows.length:Int))) h.pool.keys (str (Bi q));omega
 refine Zv (Ac DH Y)<|Zm Y<|A6<|AQ<|Zb [90,0,5,6,88,89] ?_;refine BI (e0:=[(90,_)]) (fun m e H=>∃(i:Nat) (l8:A4) (l9:List A9) (dn:Array MapEntry) (cu:Nat) (sJ:List (Int×A4)) (cO:Array MapEntry) (ax:Nat) (sj:List (Bk×A4)) (d9:Array MapEntry) (bn:Nat) (sw:List (Int×A4)),m=U.length -i/\(i<=U.length/\GK (Ov (U.take i) c.its) c.next dn cu sJ l8 l9 cO ax sj d9 bn sw c.SI)/\e=[(90,I4 (i:Int))]/\H=[[(c.ip,.cells #[.map (some c.mq),l8] 165 (0,0))],[(c.mq,.map dn cu)],[(c.mi,.map cO ax)],[(c.mkb,.map d9 bn)]]) (by exact ⟨0,c.lv,c.ML,c.esQ,c.ckQ,c.lmQ,c.esI,c.ckI,c.lmI,c.esK,c.ckK,c.lmK,rfl,⟨C7 _,by rw [IF,sS];exact h.its⟩,rfl,rfl⟩) Wp ?_;rintro _ _ _ ⟨i,l8,l9,dn,cu,sJ,cO,ax,sj,d9,bn,sw,rfl,⟨hi,I⟩,rfl,rfl⟩;refine Zq<|Bc<|Zg<|Zv (Ay Y Y)<|A6<|Zq<|Aw Y (fun W=>?_) (fun W=>?_);·
  rw [Bm,F2]at W;have af:i<U.length:=by omega
  obtain ⟨kk,qj⟩:∃k,U[i]?=some k:=⟨_,BT af⟩;obtain ⟨gk,MJ,o8,zk,Gw,rfl,Qd,zi⟩:=xH j5 (n:=U.length) (by rw [B6]) A0;injection Gw with hv1 hv2 hv3
  subst hv1;have q9:o8[i]?=some (.string kk):=by rw [zi i af,DP,qj];rfl
  refine AC<|Zx<|Zq<|AQ<|Zq<|Bc<|Zg<|BU (Be DH Fm Y Y (by first|omega|decide|(simp;done)|(simp at W⊢;omega)))<|Zl Hh Y (hv:=by exact q9)<|A5 Y<|Zg<|Zm Y<|Zm Y<|Zc [_,_] Y call41 Y rfl (gI I kk) ?_;rintro _ _ ⟨_,⟨MB,sM,wo,vo,Mx,vw,sO,Hf,vz,ve,HZ,⟨b6,rfl⟩,ic,rfl⟩,rfl⟩;refine Z0<|A8<|Zx<|Bc<|Zg<|Ya (n:=1) Y Y<|Zm Y<|Z0<|Zn [90,0,5,6,88,89] ?_;refine Aa (e':=[(90,_)]) (by exact ⟨i+1,MB,sM,wo,vo,Mx,vw,sO,Hf,vz,ve,HZ,rfl,⟨by omega,by rw [Bn qj,<-mE];exact ic⟩,rfl,rfl⟩)
 rw [Bm,F2]at W;obtain rfl:i=U.length:=by omega
 rw [G3]at I;subst ek;refine BD<|Zt<|Zt<|AV<|Zx<|A1<|Zm Y<|Zm Y<|Zm Y<|Zc [_,_,_] Y call42 Y rfl (UR I (x:=(Mm b (c.next+1) q (k9:Int) base rq rc L (BB q r0 base (Cy c.pos base c.win)) wq wc)) (fun y g hk=>(Ky.1 g).2 (by rw [hk];unfold KT;exact G2 _ (C5.2 rfl))) rfl zu (by have:=Z9 (KT sh c.z.cap c.PL (str (Bi q)) (k9:Int) (1+((BB q r0 base (Cy c.pos base c.win)).1.rows.length:Int))) c.its;omega) B) ?_;rintro _ _ ⟨_,⟨rfl,eq5,cq5,lq5,ei5,ci5,li5,ek5,ck5,lk5,gy,rfl⟩,rfl⟩;refine A6<|Zq<|Cb (s1:=s2) (s2:=c.MR) Wo Wo ?_;refine Cb (s1:=s1) (s2:=c.M) Wo Wo ?_;refine Zg<|A5 Y<|AJ<|AP V results13 Y (by
  refine .inr ⟨gm,V,({c with z:=z2,PL:=(GQ sh c.z.cap c.PL (str (Bi q)) (k9:Int) (1+((BB q r0 base (Cy c.pos base c.win)).1.rows.length:Int))).1++[⟨bp,(str (Bi q)),(k9:Int),(1+((BB q r0 base (Cy c.pos base c.win)).1.rows.length:Int))⟩],esP:=ep2,ckP:=cp2,lmP:=lp2,su:=su2,next:=c.next+1,its:=Ov (KT sh c.z.cap c.PL (str (Bi q)) (k9:Int) (1+((BB q r0 base (Cy c.pos base c.win)).1.rows.length:Int))) c.its++[(Mm b (c.next+1) q (k9:Int) base rq rc L (BB q r0 base (Cy c.pos base c.win)) wq wc)],esQ:=eq5,ckQ:=cq5,lmQ:=lq5,lv:= .pointer none,ML:=[],esI:=ei5,ckI:=ci5,lmI:=li5,esK:=ek5,ckK:=ck5,lmK:=lk5,SI:=c.SI++[(Mm b (c.next+1) q (k9:Int) base rq rc L (BB q r0 base (Cy c.pos base c.win)) wq wc).ch],M:=s1++c.M,MR:=s2++c.MR}:CZ),b,bp,rq,wq,rc,wc,s1,⟨⟨h.pos,h.win,h.wl,iU h.tookb (fun q B=>by simp [B]),J,ri (rn h.pool.keys h.pk _) _ _ V,gy,fun y g=>?_⟩,fun y g=>?_⟩,⟨V,V,V,V,X⟩,V,V,V,V,?_⟩
  · rcases C2.1 g with g|g
    · exact h.tns y (Ky.1 g).1
    · rw [C5.1 g];simp only [Mm];omega
  · rcases C2.1 g with g|g
    · exact (h.all y (Ky.1 g).1).mono (fun q B=>by simp [B]) (fun q B=>by simp [B])
    · rw [C5.1 g];exact fD B ⟨by omega,by omega⟩ hb o9 Z j3 qz O (y9.mono fun q B=>by simp [B]) (yt.mono fun q B=>by simp [B])
  · simp only [qx];rfl)
def na(c d:CZ)(q:QM)(tn base:Int)(L:List RP)(R:CB×Int×Bool)(sh:List Int)(b:Bool):Prop:=
 (b=false/\d=c/\¬((c.pos -base).toNat<=c.win.length/\R.2.2=true))\/
 ((c.pos -base).toNat<=c.win.length/\R.2.2=true)/\
   ((b=true/\d=c/\∃x∈c.its,x.key=str (Bi q)/\base<=x.base)\/
    (∀x∈c.its,x.key=str (Bi q)->x.base<base)/\
     ((b=false/\c.z.cap -Fj (GQ sh c.z.cap c.PL (str (Bi q)) (tnE c (str (Bi q)) tn) (1+(R.1.rows.length:Int))).1<1+(R.1.rows.length:Int)/\d.its=c.its/\d.PL=c.PL)\/
      (b=true/\¬c.z.cap -Fj (GQ sh c.z.cap c.PL (str (Bi q)) (tnE c (str (Bi q)) tn) (1+(R.1.rows.length:Int))).1<1+(R.1.rows.length:Int)/\(∃y:ItM,d.its=Ov (KT sh c.z.cap c.PL (str (Bi q)) (tnE c (str (Bi q)) tn) (1+(R.1.rows.length:Int))) c.its++[y]/\y.q=q/\y.base=base/\y.L=L/\y.res=R.1/\y.since=R.2.1/\y.tn=tnE c (str (Bi q)) tn)/\
        ∃b9,d.PL=(GQ sh c.z.cap c.PL (str (Bi q)) (tnE c (str (Bi q)) tn) (1+(R.1.rows.length:Int))).1++[⟨b9,str (Bi q),tnE c (str (Bi q)) tn,1+(R.1.rows.length:Int)⟩])))
theorem jU(h:c.ok)(Z:BK q)(hk:k<c.ns)(W:k<=1000000)(base:Int)(hb:0<=base/\base<=10000){L:List RP}(hL:GI ME (.slice pg L.length cg) L)(U:L.length<=1000000)(G:∀x∈L,x.fits){r0:CB}(X:Eo q L=some r0)(cu:c.next<1000000000)(af:c.its.length<500)(I:UF c sh)(Tp:AM)(zp:Nat×Nat):BR prog 13 #[.pointer (some ⟨c.cp,0,none⟩),.agg #[I4 q.kd,I4 q.tb,I4 q.cl,I4 q.lo,I4 q.hi,I4 q.bq,I4 q.ot,I4 (k:Int),I4 base,.slice pg L.length cg]] [c.mem,ME,[(1,.cells (Lib.pow10Tab.map fun z=>Value.int .u64 z).toArray Tp zp)]] (fun w H'=>∃(b:Bool) (d:CZ),w= .bool b/\d.ok/\c.like d/\(c.next<=d.next/\d.next<=c.next+1)/\UF d sh/\na c d q (k:Int) base L (BB q r0 base (Cy c.pos base c.win)) sh b/\H'=[d.mem,ME,[(1,.cells (Lib.pow10Tab.map fun z=>Value.int .u64 z).toArray Tp zp)]]):=by
 have B:c.like c:=⟨rfl,rfl,rfl,rfl,rfl⟩;by_cases m:(c.pos -base).toNat<=c.win.length
 · cases hrun:(BB q r0 base (Cy c.pos base c.win)).2.2 with
   |false=>
    refine EJ (rO h Z hk W base hb hL U G X m hrun Tp zp) ((c.z.S:List A9)++([(c.mb,.map c.esP c.ckP)]:List A9)++(c.su:List A9)++([(c.ip,.cells #[.map (some c.mq),c.lv] 165 (0,0))]:List A9)++([(c.mq,.map c.esQ c.ckQ)]:List A9)++(c.ML:List A9)++([(c.mi,.map c.esI c.ckI)]:List A9)++([(c.mkb,.map c.esK c.ckK)]:List A9)++(c.SI:List A9)++(c.MR:List A9)++[]) (Bw fun f g=>by simp only [CA,Fi,D2,CZ.mem,CZ.A75,g]<;>omega) ?_;rintro w H' ⟨rfl,rfl⟩;exact ⟨_,⟨false,c,rfl,h,B,⟨V2 _,by omega⟩,I,.inl ⟨rfl,rfl,fun h9=>by rw [hrun]at h9;exact absurd h9.2 B1⟩,rfl⟩,Bw fun f g=>by simp only [CA,Fi,D2,CZ.mem,CZ.A75,g]<;>omega⟩
   |true=>
    by_cases hx:∃x∈c.its,x.key=str (Bi q)/\base<=x.base
    · obtain ⟨x,hx,bn,ax⟩:=hx
      refine EJ (rJ h Z hk W base hb hL U G X m hrun hx bn ax Tp zp) ((c.z.S:List A9)++([(c.mb,.map c.esP c.ckP)]:List A9)++(c.su:List A9)++([(c.ip,.cells #[.map (some c.mq),c.lv] 165 (0,0))]:List A9)++([(c.mq,.map c.esQ c.ckQ)]:List A9)++(c.ML:List A9)++([(c.mkb,.map c.esK c.ckK)]:List A9)++(c.MR:List A9)++[]) (Bw fun f g=>by simp only [CA,Fi,D2,CZ.mem,CZ.A75,g]<;>omega) ?_;rintro w H' ⟨rfl,rfl⟩;exact ⟨_,⟨true,c,V,h,B,⟨V2 _,by omega⟩,I,.inr ⟨⟨m,hrun⟩,.inl ⟨V,V,x,hx,bn,ax⟩⟩,V⟩,Bw fun f g=>by simp only [CA,Fi,D2,CZ.mem,CZ.A75,g]<;>omega⟩
    · have J:∀x∈c.its,x.key=str (Bi q)->x.base<base:=fun x h1 h2=>Int.not_le.1 fun O=>hx ⟨x,h1,h2,O⟩
      refine EJ (rh h Z hk W base hb hL U G X m hrun cu J af I Tp zp) [] (Bw fun f g=>by simp only [CA,Fi,D2,CZ.mem,CZ.A75,g]<;>omega) ?_;rintro w H' (⟨h1,rfl,d,h2,O,h4,h5,h6,h7,rfl⟩|⟨h1,rfl,d,b,b9,rq,wq,rc,wc,s,h2,O,h4,h5,h6,h7,rfl⟩);· exact ⟨_,⟨false,d,rfl,h2,O,⟨by omega,by omega⟩,I.of O.ns O.sc (fun q Z=>by rw [h5];exact Z),.inr ⟨⟨m,hrun⟩,.inr ⟨J,.inl ⟨rfl,h1,h6,h7⟩⟩⟩,rfl⟩,Bw fun f g=>by simp only [CA,Fi,D2,CZ.mem,CZ.A75,g]<;>omega⟩
      · exact ⟨_,⟨true,d,rfl,h2,O,⟨by omega,by omega⟩,I.of O.ns O.sc (fun q Z=>by rw [h5];exact G2 _ Z),.inr ⟨⟨m,hrun⟩,.inr ⟨J,.inr ⟨rfl,h1,⟨_,h6,rfl,rfl,rfl,rfl,rfl,rfl⟩,b9,h7⟩⟩⟩,rfl⟩,Bw fun f g=>by simp only [CA,Fi,D2,CZ.mem,CZ.A75,g]<;>omega⟩
 · refine EJ (xL h Z hk W base hb hL U G X m Tp zp) ((c.z.S:List A9)++([(c.mb,.map c.esP c.ckP)]:List A9)++(c.su:List A9)++([(c.ip,.cells #[.map (some c.mq),c.lv] 165 (0,0))]:List A9)++([(c.mq,.map c.esQ c.ckQ)]:List A9)++(c.ML:List A9)++([(c.mi,.map c.esI c.ckI)]:List A9)++([(c.mkb,.map c.esK c.ckK)]:List A9)++(c.SI:List A9)++(c.MR:List A9)++[]) (Bw fun f g=>by simp only [CA,Fi,D2,CZ.mem,CZ.A75,g]<;>omega) ?_
   rintro w H' ⟨rfl,rfl⟩;exact ⟨_,⟨false,c,V,h,B,⟨V2 _,by omega⟩,I,.inl ⟨V,V,fun h9=>m h9.1⟩,V⟩,Bw fun f g=>by simp only [CA,Fi,D2,CZ.mem,CZ.A75,g]<;>omega⟩
theorem Qo{sh:List Int}{cap t sz k:Int}(G:k≠t):∀(n:Nat) (L:List Bf),(L.map (·.key)).Nodup->min (Ck L k) (shT sh k)<=Ck (EZ sh cap t sz n L).1 k
 |0,L,_=>j1 _ _
 |n+1,L,hn=>by
  unfold EZ;split
  · split
    · exact j1 _ _
    · rename_i x hx
      obtain ⟨A,B,rfl⟩:=Tw hx;have m:MI sh (A++x::B) t sz x=true:=dp hx
      have I:=Qo (sh:=sh) (cap:=cap) (t:=t) (sz:=sz) G n (A++B) (by
       rw [C0,Dd]at hn;rw [C0];exact ey (r8 (List.sublist_cons_self _ _) _) hn)
      simp only [LC hn];refine Int.le_trans ?_ I;have h2:Ck (A++x::B) k=Ck (A++B) k+(if x.te=k then x.sz else 0):=by rw [GM,FU,GM];omega
      by_cases g:x.te=k
      · rw [Ax g]at h2
        unfold MI at m;split at m;· exact absurd ((HO m).symm.trans g).symm G
        · simp only [G0,GO]at m
          rw [g]at m;have J:=m.2
          rw [h2]at J⊢;omega
      · rw [As g]at h2
        rw [h2];omega
  · exact j1 _ _
theorem lH{k:Int}(m:k≠t)(B:(L.map (·.key)).Nodup)(g:∀e∈L,e.key≠K):min (Ck L k) (shT sh k)<=Ck (GQ sh cap L K t sz).1 k:=by
 unfold GQ;rw [Qm g];exact Qo m _ _ B
theorem V4:∀{L:List Bf},(∀e∈L,0<=e.te/\e.te<3)->Fj L=Ck L 0+Ck L 1+Ck L 2
 |[],_=>rfl
 |e::l,h=>by
  have g:=V4 fun x m=>h x (E7 _ m);have h2:=h e (E0 ..)
  rw [Gd,FU,FU,FU,g];split<;>split<;>split<;>omega
theorem NV(f:Bf->Bool):∀{L:List Bf},(∀e∈L,1<=e.sz)->Fj (L.filter f)<=Fj L
 |[],_=>V2 _
 |e::l,h=>by
  have m:=NV f (L:=l) fun x g=>h x (E7 _ g);have h2:=h e (E0 ..)
  rw [Wr];split;· rw [Gd,Gd];omega
  · rw [Gd];omega
theorem YY(h:c.okb)(sh:List Int)(K:Bk)(t:Int)(m:sz<=c.z.fr):GQ sh c.z.cap c.PL K t sz=(c.PL.filter fun y=>y.key≠K,[]):=WB (by
 have g:=h.pool.free;have h2:=NV (fun y=>decide (y.key≠K)) h.pool.sz
 omega)
theorem sQ(K:Bk)(its:List ItM):Ov [K] its=its.filter fun y=>y.key≠K:=dd fun y _=>by simp
theorem J8.putE{l:List BQ}{P:Nat}{d:CZ}(h:J8 l P c)(I:d.ok)(m:c.like d){tn:Int}{a:Nat}(G:a<=l.length){R:CB×Int×Bool}{b:Bool}(B:na c d q tn (a:Int) (Ff (Bb (l.take a)) q) R sh b):J8 l P d:=by
 refine ⟨I,m.pos.trans h.pos,h.le,by rw [m.win];exact h.win,fun x g=>?_⟩;rcases B with⟨_,rfl,_⟩|⟨_,⟨_,rfl,_⟩|⟨_,⟨_,_,h4,_⟩|⟨_,_,⟨y,h4,h5,h6,h7,_⟩,_⟩⟩⟩
 · exact h.src x g
 · exact h.src x g
 · rw [h4]at g;exact h.src x g
 · rw [h4]at g
   rcases C2.1 g with g|g
   · exact h.src x (Ky.1 g).1
   · rw [C5.1 g,h5,h6,h7];exact ⟨a,rfl,G,rfl⟩
theorem zG{l:List BQ}{P:Nat}(B:O5 l)(h:J8 l P c)(dn:UF c sh)(hq:BK q)(hk:k<c.ns)(af:k<=1000000){a:Nat}(G:a<=l.length)(hL:GI ME (.slice pg (Ff (Bb (l.take a)) q).length cg) (Ff (Bb (l.take a)) q))(cu:c.next<1000000000)(J:c.its.length<500){n:Nat}(hn:∀b,b<=l.length->(Cs (Bb (l.take b)) q).rows.length<=n)(cO:1+(n:Int)<=c.z.fr)(X:AM)(zp:Nat×Nat):
 BR prog 13 #[.pointer (some ⟨c.cp,0,none⟩),.agg #[I4 q.kd,I4 q.tb,I4 q.cl,I4 q.lo,I4 q.hi,I4 q.bq,I4 q.ot,I4 (k:Int),I4 (a:Int),.slice pg (Ff (Bb (l.take a)) q).length cg]] [c.mem,ME,[(1,.cells (Lib.pow10Tab.map fun z=>Value.int .u64 z).toArray X zp)]] (fun w H'=>∃(b:Bool) (d:CZ),w= .bool b/\J8 l P d/\c.like d/\(c.next<=d.next/\d.next<=c.next+1)/\q6 l P c d q (k:Int) a n b/\UF d sh/\H'=[d.mem,ME,[(1,.cells (Lib.pow10Tab.map fun z=>Value.int .u64 z).toArray X zp)]]):=by
 have ax:=B.len;refine (jU h.ok hq hk af (a:Int) ⟨by omega,by omega⟩ hL (by have:=B.make_len G q;omega) (B.fits G q) (B.start G hq) cu J dn X zp).mono ?_;rintro w H' ⟨b,d,rfl,hd,O,bn,d9,hP,rfl⟩;refine ⟨b,d,V,h.putE hd O G hP,O,bn,?_,d9,V⟩;rcases hP with⟨m,h2,Z⟩|⟨hre,⟨m,h2,Z⟩|⟨hold,h4⟩⟩
 · exact .inl ⟨m,h2,fun h9=>Z ((Pq h).2 h9)⟩
 · exact .inr ⟨m,(Pq h).1 hre,fun e g=> .inl (by rw [h2]at g;exact g),.inl ⟨h2,Z⟩⟩
 · have ek:=rF B h hq G hn hre.1
   rw [YY h.ok.tookb sh (str (Bi q)) _ A0]at h4;rcases h4 with⟨_,h5,_⟩|⟨m,_,⟨y,h4,e1,e2,_,_,_,e4⟩,b9,h10⟩
   · exfalso
     have h6:=h.ok.pool.free;have h7:=NV (fun y=>decide (y.key≠str (Bi q))) h.ok.pool.sz
     simp only at h5;omega
   · refine .inr ⟨m,(Pq h).1 hre,fun e g=>?_,.inr ⟨hold,y,?_,e1,e2,?_⟩⟩
     · rw [h10]at g
       rcases C2.1 g with g|g
       · exact .inl (Fc.1 g).1
       · rw [C5.1 g]
         exact .inr (show 1+_<=1+(n:Int) by omega)
     · rw [h4]
       unfold KT;rw [YY h.ok.tookb sh (str (Bi q)) _ A0];show Ov [str (Bi q)] c.its++[y]=_
       rw [sQ]
     · by_cases W:∃x∈c.its,x.key=str (Bi q)
       · obtain ⟨x,W,I⟩:=W
         exact .inr ⟨x,W,I,e4.trans (iY h.ok.its.keys W I)⟩
       · have U:∀x∈c.its,x.key≠str (Bi q):=fun x m h2=>W ⟨x,m,h2⟩
         exact .inl ⟨e4.trans (Wj U),U⟩
end Go.Proofs.YthhakdmlpngcmaaGreatDoor
