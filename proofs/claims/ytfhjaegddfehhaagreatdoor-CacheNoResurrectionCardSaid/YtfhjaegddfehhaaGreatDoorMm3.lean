/- Match. -/
import Derived.Test.YtfhjaegddfehhaaGreatDoorCo1
set_option linter.unusedVariables false
set_option linter.unusedSimpArgs false
namespace Go.Proofs.YtfhjaegddfehhaaGreatDoor
open Go.Proofs.Tryz
open Go Go.RowKit Gw
set_option maxRecDepth 100000
attribute [local irreducible] Gw.At Gw.Nx Gw.Ops
variable{qs:List (Int×QM)}{c:Chg}
theorem tX{sc:Int->Int->List IvM}{jn:Int->List Int}(G:JR qs sc jn)(I:∀x∈qs,BJ x.2){cs:List Chg}{k:Nat}(hc:cs[k]?=some c)(i:Int):(JS qs (cs.take k) i\/(i∈NN sc jn c/\JS qs [c] i))↔JS qs (cs.take (k+1)) i:=by
 rw [Bi hc];unfold JS;constructor
 · rintro (⟨x,hx,B,d,g,m⟩|⟨_,x,hx,B,d,g,m⟩)
   · exact ⟨x,hx,B,d,Dg _ g,m⟩
   · exact ⟨x,hx,B,d,G2 _ g,m⟩
 · rintro ⟨x,hx,B,d,g,m⟩
   rcases B9.1 g with g|g
   · exact .inl ⟨x,hx,B,d,g,m⟩
   · refine .inr ⟨?_,x,hx,B,d,g,m⟩
     rw [BT.1 g]at m;rw [<-B];exact ed G hx (I x hx) m
variable{es:Array MapEntry}{ck:Nat}{lm:List (Int×Value)}{y:Int×QM}
theorem jO(g:Ei qs es ck lm)(hy:y∈qs):JS qs [c] y.1↔Cq y.2 c=true:=by
 constructor
 · rintro ⟨x,hx,G,d,B,m⟩
   rw [BT.1 B]at m;rwa [zy g hx hy G]at m
 · intro h;exact ⟨y,hy,rfl,c,by simp,h⟩
theorem nA(g:Ei qs es ck lm)(hy:y∈qs)(h:Cq y.2 c=true){S:Int->Prop}{pre:List Int}(i:Int):((S i\/(i∈pre/\JS qs [c] i))\/i=y.1)↔(S i\/(i∈pre++[y.1]/\JS qs [c] i)):=by
 rw [B9,BT];constructor
 · rintro ((h1|⟨h1,h2⟩)|rfl)
   · exact .inl h1
   · exact .inr ⟨.inl h1,h2⟩
   · exact .inr ⟨.inr rfl,(jO g hy).2 h⟩
 · rintro (h1|⟨h1|rfl,h2⟩)
   · exact .inl (.inl h1)
   · exact .inl (.inr ⟨h1,h2⟩)
   · exact .inr rfl
theorem aD(g:Ei qs es ck lm)(hy:y∈qs){S:Int->Prop}{pre:List Int}(h:Cq y.2 c=true->S y.1\/(y.1∈pre/\JS qs [c] y.1))(i:Int):(S i\/(i∈pre/\JS qs [c] i))↔(S i\/(i∈pre++[y.1]/\JS qs [c] i)):=by
 rw [B9,BT];constructor
 · rintro (h1|⟨h1,h2⟩)
   · exact .inl h1
   · exact .inr ⟨.inl h1,h2⟩
 · rintro (h1|⟨h1|rfl,h2⟩)
   · exact .inl h1
   · exact .inr ⟨h1,h2⟩
   · exact h ((jO g hy).1 h2)
theorem fB{ip mp:Nat}(J:Ei qs es ck lm)(hq:∀x∈qs,BJ x.2)(hl:qs.length<=500){lv:Value}{ML:List AA}(X:WQ qs lv ML)(p:Int){MC:List AA}{qa:Option Addr}{cap:Nat}{cs:List Chg}(hC:Ck MC (.slice qa cs.length cap) cs)(qw:cs.length<=1000)(d9:∀c∈cs,c.ok):Ba prog 45 #[I5 ip,.agg #[I4 p,.slice qa cs.length cap]] [[(ip,.cells #[.map (some mp),lv] 163 (0,0))],[(mp,.map es ck)],ML,MC] (fun r H'=>∃(zs:List Int) (s':List AA) (lv':Value) (ML':List AA),(∀i,i∈zs↔JS qs cs i)/\zs.Nodup/\(zs.Pairwise fun x y=>x<=y)/\Row 3 r (zs.map (Value.int .i64)) s'/\WQ qs lv' ML'/\H'=[[(ip,.cells #[.map (some mp),lv'] 163 (0,0))],[(mp,.map es ck)],ML',MC,s']):=by
 have sj:=mL;obtain ⟨pc,pq,p8,qx,j3⟩:=id hC;injection p8 with hv1 hv2 hv3
 subst hv1 hv3;have qz:=J.len
 refine DL func45 V ntmps45 V ?_;intro u R;refine Zb [0,1] ?_;refine A0<|Ze (Bx #[_])<|AE fun bx=>Ze (Bx #[I4 p,.slice qa cs.length cap])<|AE fun br=>A3 Y<|Zq<|A0<|Zl isAgg104 Y<|Zv (Be underlying104 Y Y)<|A5<|AX Y (fun cO=>by cases cO)<|fun cO=>AC<|Zx<|A0<|Ze (DT)<|AE fun mf=>Ze (Al zeroValue193 #[_])<|AE fun bf=>Xe (Zs sizeOf193 Y Y V)<|A5<|Zq<|A0<|Zh 1 G3 V rfl IH Y<|Zl LL Y<|Zv (AY G1 Y)<|Zm Y<|A5<|AR<|Zb [15,2,5,13,14] ?_;refine uw (e0:=[(15,_)]) (H0:=_) (n:=_) (fun m e H=>∃(k:Nat) (lv:Value) (ML:List AA) (U:Array MapEntry) (O:Nat) (bg:List (Int×Value)),m=cs.length -k/\(k<=cs.length/\WQ qs lv ML/\IE (JS qs (cs.take k)) U O bg)/\e=[(15,I4 (k:Int))]/\H=[[(ip,.cells #[.map (some mp),lv] 163 (0,0))],ML,[(mf,.map U O)]]) (by exact ⟨0,lv,ML,#[],0,[],V,⟨C0 _,X,fw.cong fun i=>by unfold JS;simp⟩,V,V⟩) Wp ?_;rintro Ds _ _ _ ⟨k,lv,ML,U,O,bg,rfl,⟨hk,X,hF⟩,rfl,rfl⟩;refine A0<|Zv (Au Y Y)<|A5<|Zq<|Aq Y (fun l5=>?_) (fun l5=>?_);·
  obtain ⟨c,hc⟩:∃c,cs[k]?=some c:=⟨_,B3 A1⟩;have ax:=d9 c (DE hc)
  have sw:=bV ax;obtain ⟨g,off,cur,T,zz,rfl,l9,q9,ek⟩:=j3 k c hc;refine AC<|Zx<|Zq<|AR<|A0<|Bb (Ac G1 C1 Y Y A1)<|CS (I1 Wo (l9)) (A9 (cs:=c.A57) Fk C1 Y A1 ek) V rfl<|Ze (Al Ln #[_,_,_,_,_,_,_,_,_,_])<|AE fun bc=>Xe (Xw C1 c.A57)<|A5<|Zq<|Az (n:=4) (0::1::0::7::[]) 10 A6 A6 V<|B2 0 V isAgg104 Y<|E7 2 V Wh (A9 (cs:=#[_,_,_,_,_,_,_,_,_,_]) Fk C1 Y Wn (BK V))<|Zz (l:=[1])<|B1 [true,false] [(2,(_,_))] V rfl (Zw [_] Y call94 Y V (rz J hq hl X)) ?_ Bv Ai;rintro _ _ ⟨_,⟨lp,cu,sc,jn,rfl,hL,hW,rfl⟩,rfl⟩;refine B6<|Zz (l:=[3])<|B1 [false] [] V rfl (Zw [_,_] Y call95 Y V (lM lp c)) ?_ Bv Ai;rintro _ _ ⟨_,⟨bl,bn,rfl,rfl⟩,rfl⟩;refine B6<|Ag<|Zx<|AR<|Zb [2,5,7,13,14,15,22] ?_;refine PV (H0:=_) (R:=_) (I:=(fun(pre:List Int) H=>∃G B K,IE (fun i=>JS qs (cs.take k) i\/(i∈pre/\JS qs [c] i)) G B K/\H=[[(ip,.cells #[.map (some mp),I5 lp] 163 (0,0))],[(mp,.map es ck)],cu,[(mf,.map G B)],[(bf,.cells #[.map (some mf)] 193 (0,0))],[(bx,.cells #[I5 ip] 104 (0,0))],[(bc,.cells c.A57 62 (0,0))]])) (E:=fun x e Hn=>e=[(8,I4 x),(23,I4 x)]/\Hn=[]) rfl Y call147 (lN hL c (bT ax) A1 (hW.small c.t) bn bl) (by rintro pre _ c1 c2 ⟨qo,ql,sF,h9,rfl⟩;intro q o8;simp [o8]) Y rfl Wp (⟨U,O,bg,hF.cong fun i=>by simp,rfl⟩) ?ha_5 ?hbd_5 ?hk_5
  case ha_5=>
   intro _ x _ _;refine Zg<|AG Y<|Lv (e:=[(8,_),(23,_)]) (Hn:=[]) ?_;exact ⟨V,V⟩
  case hbd_5=>
   intro l pre x qb u e9 qj H1 R1 r9 p9 hI gF;obtain ⟨rfl,rfl⟩:=gF;obtain ⟨G,B,K,Z,rfl⟩:=hI;obtain ⟨y,hy,rfl⟩:=rV hW (c:=c) (i:=x) (by rw [p9];simp);have kv:=J.get hy
   have pz:Decidable (JS qs (cs.take k) y.1\/(y.1∈pre/\JS qs [c] y.1)):=Classical.propDecidable _;have j5:=Z.get y.1
   refine AR<|Zq<|Az (n:=14) (0::0::3::7::15::31::63::127::255::31::1023::31::4095::8191::[]) 4096 A6 A6 V<|B2 0 V isAgg193 Y<|A2 1 V (AP Y)<|E7 2 V Wh (De (Cc C5 (D:=fun _=>True)) underlying193 T0 Z.map (fun _ _=>trivial) (trivial) (j5) Y Y)<|A2 3 V (D7 Y)<|A2 4 V (AP Y)<|DX (t:=28) Y (fun W=>?_) (fun W=>?_);·
    rw [Cp W];refine DH 5 rfl Wh (BP isAgg104 Y AN)<|An 6 rfl (Ap Y rfl)<|An 7 rfl (AB (off:=0) Q1 rfl rfl du Y)<|DH 8 rfl Wh (BP cS Y AN)<|An 9 rfl (AP Y)<|DH 10 rfl Wh (De (Cc C5 (D:=fun _=>True)) db Mn J.map (fun _ _=>trivial) (trivial) (by rw [kv];first|done|rfl) Y Y)<|DH 11 rfl Wh (A9 (cs:=c.A57) Fk C1 Y Wn (BK rfl))<|Yw 12 8191 rfl (Zu [_,_] Y call91 Y rfl (KZ y.2 c)) ?_;rintro _ _ ⟨rfl,rfl⟩;rw [Cp (hq y hy),Cp ax,Tr,Tr];refine A2 13 V (AQ Y Y)<|Ag<|Zn [5,8,37] ?_;refine Zx<|AX Y (fun af=>?_) (fun af=>?_);·
     have h9:=af;refine Zg<|Zl isAgg193 Y<|Zm Y<|Ze (FE (Cc C5 (D:=fun _=>True)) underlying193 Z.map (fun _ _=>trivial) (trivial) Y Y Y Wo) ?_;rintro _ _ ⟨rfl,gB,gy,pg,l8,lw,rfl⟩;refine Z0<|A8<|F7 V (by exact ⟨gB,gy,pg,(Z.put l8 lw).cong (nA J hy h9),V⟩)
    have h9:Cq y.2 c=true->JS qs (cs.take k) y.1\/(y.1∈pre/\JS qs [c] y.1):=fun h=>by rw [af]at h;cases h
    refine AC<|A8<|F7 V (by exact ⟨G,B,K,Z.cong (aD J hy h9),V⟩)
   rw [CN W];have h9:Cq y.2 c=true->JS qs (cs.take k) y.1\/(y.1∈pre/\JS qs [c] y.1):=fun _=>HI.1 W
   refine AF 5 V<|AF 6 V<|AF 7 V<|AF 8 V<|AF 9 V<|AF 10 V<|AF 11 V<|AF 12 V<|A2 13 V (AL Y Y)<|Ag<|Zn [5,8,37] ?_;refine Zx<|DI Y<|AC<|A8<|F7 V (by exact ⟨G,B,K,Z.cong (aD J hy h9),V⟩)
  intro D1 H2 ic;obtain ⟨G,B,K,Z,rfl⟩:=ic;refine Zn [2,5,13,14,15] ?_;refine A8<|A8<|Zx<|Zg<|Ya (n:=1) Y Y<|Zm Y<|Z0<|Zn [15,2,5,13,14] ?_;refine eX (Ds:=Ds) (e':=[(15,_)]) (by exact ⟨k+1,_,cu,G,B,K,V,⟨by omega,.inr ⟨lp,sc,jn,V,hL,hW⟩,Z.cong (tX hW hq hc)⟩,V,V⟩) Wo Wo
 obtain rfl:k=cs.length:=by omega
 rw [GB]at hF;refine Ay<|Zt<|Zt<|AU<|Zx<|Zq ?_;have qy:=hF.len (qs:=qs) fun i h=>by
  obtain ⟨x,hx,he,_⟩:=h;exact ⟨x,hx,he⟩
 refine Zg<|Zl isAgg193 Y<|Zc [_] Y call97 Y V (fO mf) ?_;rintro _ _ ⟨_,⟨bk,rfl,rfl⟩,rfl⟩;refine Zc [_] Y call96 Y V (Wq hF.map A1 bk mf (M:=[(mf,.map U O)]) B0) ?_;rintro _ _ ⟨_,⟨zs,s4,gm,gq,o9,rfl⟩,rfl⟩;refine A3 Y<|AJ<|rR (Ds:=Ds) rfl (dM results45 Y) Wo (by exact ⟨zs,s4,lv,ML,fun i=>by rw [gm.mem_iff,hF.mem],gm.nodup_iff.2 hF.map.keys,gq,o9,X,rfl⟩)
theorem RD(b:Nat)(v:Value):Ba prog 65 #[I5 b] [[(b,.cells #[.pointer none,v] 87 (0,0))]] (fun r H'=>r= .tuple #[]/\H'=[[(b,.cells #[I5 b,v] 87 (0,0))]]):=by
 refine Se func65 ntmps65 [0] ?_;intro u R;refine A0<|Zm Y<|Zp Y V<|Zh 0 S5 V rfl sizeOf84 Y<|Zl isAgg84 Y<|Zv (Jr fW Y Y)<|A5<|AX Y (fun g=>?_) (fun g=>?_);·
  refine Zg<|Zm Y<|Zm Y<|Zo Wh (Yr (c:=#[.pointer none,v]) fW underlying206 (V:Tryz.prog.info? 87=some Tryz.t87) AH (Nat.zero_lt_succ 1) Y) ?_;refine Kl (rC (vs:=[_]) (e:=Extern.AbiNoEscape.same) func109 A6 A6 A6 A6 Y Y) V rfl<|Zo Wh (UY underlying206 fW (V:Tryz.prog.info? 87=some Tryz.t87) (show liesAt _ _ _ (2/_) 0 _ 1=true from by kernel_rfl) Y) ?_;refine Zp Y V<|Zh 0 S5 V rfl sizeOf84 Y<|Xe (Zs sizeOf84 Y Y V)<|Z0<|Cw V results65 (by exact ⟨V,V⟩)
 cases g
theorem MH(b:Nat)(v:Value):Ba prog 65 #[I5 b] [[(b,.cells #[I5 b,v] 87 (0,0))]] (fun r H'=>r= .tuple #[]/\H'=[[(b,.cells #[I5 b,v] 87 (0,0))]]):=by
 refine Se func65 ntmps65 [0] ?_;intro u R;refine A0<|Zm Y<|Zp Y V<|Zh 0 S5 V rfl sizeOf84 Y<|Zl isAgg84 Y<|Zv (Be fW Y Y)<|A5<|AX Y (fun g=>by cases g)<|fun g=>A0<|Zm Y<|Zp Y V<|Zh 0 S5 V rfl sizeOf84 Y<|Zl isAgg84 Y<|Zm Y<|Kl (TD fW (V:Tryz.prog.info? 87=some Tryz.t87) Y Y) V rfl ?_;refine A5<|DI Y<|AC<|Cw V results65 (by exact ⟨V,V⟩)
theorem JV(b:Nat)(v:Value)(l x:List UInt8)(G:List AA)(g:Row 5 v (l.map u8v) G)(h0:0<x.length)(hb:l.length+x.length<=1099511627776):Ba prog 24 #[I5 b,.string (str x)] [[(b,.cells #[.pointer none,v] 87 (0,0))],G] (fun r H'=>∃I B K,Row 5 I ((l++x).map u8v) B/\r=K/\H'=[[(b,.cells #[I5 b,I] 87 (0,0))],B]):=by
 have J:=mL;obtain ⟨Z,W,rfl⟩:=g.form;refine Se func24 ntmps24 [0,1] ?_;intro u R;refine A0<|Za Y<|A3 Y<|A0<|Zm Y<|Zc [_] Y call65 Y V (RD b _) ?_;rintro _ _ ⟨_,⟨rfl,rfl⟩,rfl⟩;refine A5<|A0<|Zm Y<|Zm Y<|Zp Y V<|Zh 1 S5 V rfl OS Y<|Zl S8 Y<|Zm Y<|Ze (OI (by_:=1) HE GP (V:Tryz.prog.info? 5=some Tryz.t5) V rfl V rfl Y g Y Wo A1 (by(rw [B4];omega)) (by(rw [B4];omega))) ?_;rintro _ _ ⟨O,m,rfl⟩;obtain ⟨X,U,rfl⟩:=m.form;refine Zp Y V<|Zh 1 S5 V rfl OS Y<|Xe (Zs OS Y Y V)<|Z0<|Zn [1] ?_;refine Zx<|A0<|Zm Y<|Zv (QC GP Y)<|Za Y<|A3 Y<|AJ<|Cv rfl results24 Y Y (by exact ⟨_,O,_,(by rw [BW];exact m),rfl,rfl⟩)
theorem Pb(b:Nat)(v:Value)(l x:List UInt8)(G:List AA)(g:Row 5 v (l.map u8v) G)(h0:0<x.length)(hb:l.length+x.length<=1099511627776):Ba prog 24 #[I5 b,.string (str x)] [[(b,.cells #[I5 b,v] 87 (0,0))],G] (fun r H'=>∃I B K,Row 5 I ((l++x).map u8v) B/\r=K/\H'=[[(b,.cells #[I5 b,I] 87 (0,0))],B]):=by
 have J:=mL;obtain ⟨Z,W,rfl⟩:=g.form;refine Se func24 ntmps24 [0,1] ?_;intro u R;refine A0<|Za Y<|A3 Y<|A0<|Zm Y<|Zc [_] Y call65 Y V (MH b _) ?_;rintro _ _ ⟨_,⟨rfl,rfl⟩,rfl⟩;refine A5<|A0<|Zm Y<|Zm Y<|Zp Y V<|Zh 1 S5 V rfl OS Y<|Zl S8 Y<|Zm Y<|Ze (OI (by_:=1) HE GP (V:Tryz.prog.info? 5=some Tryz.t5) V rfl V rfl Y g Y Wo A1 (by(rw [B4];omega)) (by(rw [B4];omega))) ?_;rintro _ _ ⟨O,m,rfl⟩;obtain ⟨X,U,rfl⟩:=m.form;refine Zp Y V<|Zh 1 S5 V rfl OS Y<|Xe (Zs OS Y Y V)<|Z0<|Zn [1] ?_;refine Zx<|A0<|Zm Y<|Zv (QC GP Y)<|Za Y<|A3 Y<|AJ<|Cv rfl results24 Y Y (by exact ⟨_,O,_,(by rw [BW];exact m),rfl,rfl⟩)
theorem O8(b g cap:Nat)(p:Value)(l:List UInt8)(cur:Array Value)(z:Nat×Nat)(h0:0<l.length)(hc:cap≠0)(B:l.length<=9223372036854775807)(m:cur.toList.take l.length=l.map u8v):Ba prog 28 #[I5 b] [[(b,.cells #[p,I6 g l.length cap] 87 (0,0))],[(g,.cells cur 5 z)]] (fun r H'=>r= .string (str l)/\H'=[[(b,.cells #[p,I6 g l.length cap] 87 (0,0))]]):=by
 refine Se func28 ntmps28 [0] ?_;intro u R;refine A0<|A3 Y<|Zq<|Az (n:=12) (0::1::3::7::15::0::32::96::224::480::1023::2047::[]) 1040 A6 A6 V<|A2 0 V (AP Y)<|A2 1 V (Ap Y V)<|A2 2 V (AB (off:=1) S5 V rfl OS Y)<|B2 3 V S8 Y<|A2 5 V (AP Y)<|A2 6 V (Ap Y V)<|A2 7 V (AB (off:=1) S5 V rfl OS Y)<|B2 8 V S8 Y<|A2 9 V (AY HE Y)<|Zz (l:=[4])<|B1 [true,false] [(8,(_,_))] V rfl (Y3 Y hc) ?_ (fun _ _ h=>h.elim) Ai;rintro _ _ ⟨rfl,rfl⟩;refine B6<|Yw 10 2047 V (Ri (l:=l) underlying150 A6 Y Y (List.ne_nil_of_length_pos h0) B Wo m)<|CT<|A2 11 V (Av Y)<|Ag<|Zn [2] ?_;refine Zx<|AJ<|AO V results28 Y (by exact ⟨V,V⟩)
def NC(k:Int):List UInt8:=if k=1 then [114,111,119]else if k=2 then [114,111,119,115]else if k=3 then [99,111,117,110,116]else if k=4 then [115,117,109]else if k=5 then [109,105,110]else if k=6 then [109,97,120]else [106,111,105,110]
def HY(k:Int):List Nat:=if k=1 then [1,3]else if k=2\/k=3 then [1,2,3,4]else if k=7 then [5,6,1,2,3,4]else [5,1,2,3,4]
def XV(k:Int):Nat:=if k=1 then 61 else if k=2\/k=3 then 62 else if k=7 then 64 else 63
def Iq(k:Int)(i:Int):List UInt8:=if i=1 then(if k=4\/k=5\/k=6 then [111,102]else if k=7 then [116,111]else [])else if i=2/\k=7 then [111,102]else []
def NR(k:Int)(g1 g7:Nat):Value:=if k=7 then .map (some g7)else if k=4\/k=5\/k=6 then .map (some g1)else .map none
def Jy(q:QM)(o:Nat):Int:=if o=1 then q.tb else if o=2 then q.cl else if o=3 then q.lo else if o=4 then q.hi else if o=5 then q.bq else q.ot
def Sb(l x:List UInt8):List UInt8:=l++32::x
def M4(q:QM)(l:List UInt8)(i:Nat):List UInt8:=if Iq q.kd i=[]then l else Sb l (Iq q.kd i)
def upP(q:QM):Nat->List UInt8
 |0=>NC q.kd
 |i+1=>Sb (M4 q (upP q i) i) (Lib.itoa (Jy q ((HY q.kd).getD i 0)))
theorem OJ(q:QM)(i:Nat):upP q (i+1)=Sb (M4 q (upP q i) i) (Lib.itoa (Jy q ((HY q.kd).getD i 0))):=rfl
def Ci(q:QM):List UInt8:=upP q (HY q.kd).length
theorem xu(k:Int):(HY k).length<=6:=by
 unfold HY;split;· decide
 · split
   · decide
   · split<;>decide
theorem xq(k:Int):0<(HY k).length:=by
 unfold HY;split;· decide
 · split
   · decide
   · split<;>decide
theorem uF(k:Int):∀o∈HY k,o<=6:=by
 unfold HY;split;· decide
 · split
   · decide
   · split<;>decide
theorem uG(k:Int):∀o∈HY k,1<=o:=by
 unfold HY;split;· decide
 · split
   · decide
   · split<;>decide
theorem rW:∀(k u:Nat),1<=k->u<10^k->Lib.nDigits u<=k
 |0,_,h,_=>by omega
 |k+1,u,_,h=>by
  by_cases g:u<10
  · rw [Lib.nDigits_small g];omega
  · rw [Lib.nDigits_big g]
    have m:1<=k:=by
     rcases PB k with rfl|h2
     · simp at h;omega
     · exact h2
    have:=rW k (u/10) m (by rw [eo]at h;omega);omega
theorem TV(n:Int)(h:-9223372036854775808<=n/\n<=9223372036854775807):0<(Lib.itoa n).length/\(Lib.itoa n).length<=21:=by
 unfold Lib.itoa;split
 · rw [DG,Lib.decDigits_length]
   have:=rW 20 n.natAbs AH A1;omega
 · rw [Lib.decDigits_length]
   have:=rW 20 n.toNat AH A1;have:=Lib.nDigits_pos n.toNat
   omega
theorem PH(k i:Int):(Iq k i).length<=2:=by
 unfold Iq;split
 · split
   · decide
   · split<;>decide
 · split<;>decide
theorem Y1(k:Int):0<(NC k).length/\(NC k).length<=5:=by
 unfold NC;split;· decide
 · split
   · decide
   · split
     · decide
     · split
       · decide
       · split
         · decide
         · split<;>decide
theorem KY{q:QM}(g:∀o,-9223372036854775808<=Jy q o/\Jy q o<=9223372036854775807):∀i,0<(upP q i).length/\(upP q i).length<=5+25*i
 |0=>by
  have:=Y1 q.kd;unfold upP;omega
 |i+1=>by
  have h:=KY g i;have m:=TV _ (g ((HY q.kd).getD i 0))
  have h2:=PH q.kd i;unfold upP M4 Sb;rw [B7,DG];split;· omega
  · rw [B7,DG];omega
theorem Oy(q:QM)(l:List UInt8)(i:Nat):(M4 q l i).length<=l.length+3:=by
 have:=PH q.kd i;unfold M4 Sb;split;· omega
 · rw [B7,DG];omega
theorem wB{q:QM}(h:BJ q)(o:Nat):-9223372036854775808<=Jy q o/\Jy q o<=9223372036854775807:=by
 obtain ⟨g,h2,m,B⟩:=h;unfold Jy;split;· omega
 · split
   · omega
   · split
     · omega
     · split
       · omega
       · split<;>omega
theorem il(q:QM){o:Nat}(g:1<=o)(h2:o<=6):(q.A59:Array Value)[o]?=some (I4 (Jy q o)):=by
 rcases (by omega:o=1\/o=2\/o=3\/o=4\/o=5\/o=6)with rfl|rfl|rfl|rfl|rfl|rfl<;>rfl
theorem Mo(n:Int)(hn:-9223372036854775808<=n/\n<=9223372036854775807)(Tp:TypeId)(zp:Nat×Nat):BH prog 27 #[I4 n] [[(1,.cells (Lib.pow10Tab.map fun z=>Value.int .u64 z).toArray Tp zp)]] (.string (str (Lib.itoa n))):=fun u R w hs=>by
 have hg:=hs.get (1,.cells (Lib.pow10Tab.map fun z=>Value.int .u64 z).toArray Tp zp) B0;refine (Tryz.strconv_Itoa n hn.1 hn.2 w ?_).mono ?_
 · unfold Lib.TabIs World.var?
   rw [show Tryz.prog.globalNamed "internal/strconv.uint64pow10"=some 1 by kernel_rfl];simp only [I3,hg]
 · rintro e w' ⟨rfl,k,os,rfl⟩
   exact .inl ⟨_,_,V,⟨V,V⟩,S9 hs k os⟩
theorem XC{P:Program}{α:Type}{κ:α->Value}{D:α->Prop}{k:α}{env:Env}{d:Option Nat}{ty:TypeId}{pos:String}{af:Array Edge}{g:Option (Nat×Bool)}{t kt G:TypeId}{m x:Operand}{z:Value}(I:Fv P kt κ D)(K:P.underlying t=some (.map kt G))(hz:∀w:World,(zeroValue G).run P w= .ok z w)(J:D k)(hx:∀a,ev a env m= .map none)(hy:∀a,ev a env x=κ k):
 OpP P ⟨d,.lookup t m x true,ty,pos,af,g⟩ env [] (.tuple #[z,.bool false]):=fun a w O=>by
 show((do pure (Next.value (<-Instr.lookup t (ev a env m) (ev a env x) true))):Sem Next).run P w=_;rw [hx a,hy a];have B:(Instr.findKey kt (κ k) []).run P w= .ok none w:=by
  rcases I9 I (EU κ) (fun p h=>by cases h) w k J with⟨B,_⟩|⟨j,v,_,h2⟩
  · exact B
  · simp at h2
 simp only [Instr.lookup,Sem.run_bind,run_underlying K,Result.andThen,F4 I J,Sem.run_pure,B,hz];rfl
theorem kK(bq:Nat):Ba prog 61 #[I5 bq] [] (fun r H'=>∃s,Row 96 r (([1,3]:List Nat).map fun o=> .pointer (some ⟨bq,o,none⟩)) s/\H'=[s]):=by
 refine Se func61 ntmps61 [0] ?_;intro u R;refine A0<|A3 Y<|Zq<|Az (n:=8) (0::1::3::0::8::24::63::127::[]) 64 A6 A6 V<|A2 0 V (AP Y)<|A2 1 V (Ap Y V)<|A2 2 V (AB (off:=1) CC V rfl A4 Y)<|A2 3 V (AP Y)<|A2 4 V (Ap Y V)<|A2 5 V (AB (off:=3) CC V rfl A4 Y)<|Zz (l:=[6])<|B1 [] [] V rfl (Ah (vs:=[_,_]) (cs:=[_,_]) Q2 T5 Wc Y V rfl V rfl V) ?_ (fun _ _ h=>h.elim) Ai;rintro _ _ ⟨g,rfl,rfl⟩;refine B6<|A2 7 V (Av Y)<|Ag<|Zx<|AJ<|AO V results61 Y (by exact ⟨_,Jb _ g [.pointer (some ⟨bq,1,none⟩),.pointer (some ⟨bq,3,none⟩)] 2 V AH,V⟩)
theorem IX(bq:Nat):Ba prog 62 #[I5 bq] [] (fun r H'=>∃s,Row 96 r (([1,2,3,4]:List Nat).map fun o=> .pointer (some ⟨bq,o,none⟩)) s/\H'=[s]):=by
 refine Se func62 ntmps62 [0] ?_;intro u R;refine A0<|A3 Y<|Zq<|Az (n:=14) (0::1::3::0::8::24::0::64::192::0::512::1536::4095::8191::[]) 4096 A6 A6 V<|A2 0 V (AP Y)<|A2 1 V (Ap Y V)<|A2 2 V (AB (off:=1) CC V rfl A4 Y)<|A2 3 V (AP Y)<|A2 4 V (Ap Y V)<|A2 5 V (AB (off:=2) CC V rfl A4 Y)<|A2 6 V (AP Y)<|A2 7 V (Ap Y V)<|A2 8 V (AB (off:=3) CC V rfl A4 Y)<|A2 9 V (AP Y)<|A2 10 V (Ap Y V)<|A2 11 V (AB (off:=4) CC V rfl A4 Y)<|Zz (l:=[12])<|B1 [] [] V rfl (Ah (vs:=[_,_,_,_]) (cs:=[_,_,_,_]) Q2 T5 Wc Y V rfl V rfl V) ?_ (fun _ _ h=>h.elim) Ai;rintro _ _ ⟨g,rfl,rfl⟩;refine B6<|A2 13 V (Av Y)<|Ag<|Zn [2] ?_;refine Zx<|AJ<|AO V results62 Y (by exact ⟨_,Jb _ g [.pointer (some ⟨bq,1,none⟩),.pointer (some ⟨bq,2,none⟩),.pointer (some ⟨bq,3,none⟩),.pointer (some ⟨bq,4,none⟩)] 4 V AH,V⟩)
theorem o7(bq:Nat):Ba prog 63 #[I5 bq] [] (fun r H'=>∃s,Row 96 r (([5,1,2,3,4]:List Nat).map fun o=> .pointer (some ⟨bq,o,none⟩)) s/\H'=[s]):=by
 have U:=mL;refine Se func63 ntmps63 [0] ?_;intro u R;refine A0<|A3 Y<|Zq<|Az (n:=8) (0::1::3::7::0::16::63::127::[]) 104 A6 A6 V<|A2 0 V (AP Y)<|A2 1 V (Ap Y V)<|A2 2 V (AB (off:=5) CC V rfl A4 Y)<|A2 4 V (AP Y)<|Zz (l:=[3,5])<|B1 [] [] V rfl (Ah (vs:=[_]) (cs:=[_]) Q2 T5 Wc Y V rfl V rfl V) ?_ (fun _ _ h=>h.elim) ?_;·
  rintro _ _ ⟨g,rfl,rfl⟩;refine B6<|Zz (l:=[5])<|B1 [] [] V rfl (Zw [_] Y call62 Y V (IX bq)) ?_ Bv Ai;rintro _ _ ⟨_,⟨s2,B,rfl⟩,rfl⟩;refine ⟨Aa,?_⟩;obtain ⟨O,K,rfl⟩:=B.form;refine Yw 6 127 V (Gp (by_:=8) Q2 (V:Tryz.prog.info? 96=some Tryz.t96) V rfl V rfl Y ((Jb _ g [.pointer (some ⟨bq,5,none⟩)] 1 V AH)) Y (B) Wo Wo Fm (by((simp;omega))) (by((simp;done)))) ?_;rintro _ _ ⟨J,m,rfl⟩;obtain ⟨I,G,rfl⟩:=m.form;refine A2 7 V (Av Y)<|Ag<|Zx<|AJ<|AO V results63 Y (by exact ⟨_,m,V⟩)
 refine B1 [] [] V rfl (Zw [_] Y call62 Y V (IX bq)) ?_ Bv Ai;rintro _ _ ⟨_,⟨s2,B,rfl⟩,rfl⟩;refine ⟨Aa,?_⟩;obtain ⟨O,K,rfl⟩:=B.form;refine Yw 3 63 V (Ah (vs:=[_]) (cs:=[_]) Q2 T5 Wc Y V rfl V rfl V)<|AE fun g=>Yw 6 127 V (Gp (by_:=8) Q2 (V:Tryz.prog.info? 96=some Tryz.t96) V rfl V rfl Y ((Jb _ g [.pointer (some ⟨bq,5,none⟩)] 1 V AH)) Y (B) Wo Wo Fm (by((simp;omega))) (by((simp;done)))) ?_;rintro _ _ ⟨J,m,rfl⟩;obtain ⟨I,G,rfl⟩:=m.form;refine A2 7 V (Av Y)<|Ag<|Zx<|AJ<|AO V results63 Y (by exact ⟨_,m,V⟩)
theorem fQ(bq:Nat):Ba prog 64 #[I5 bq] [] (fun r H'=>∃s,Row 96 r (([5,6,1,2,3,4]:List Nat).map fun o=> .pointer (some ⟨bq,o,none⟩)) s/\H'=[s]):=by
 have U:=mL;refine Se func64 ntmps64 [0] ?_;intro u R;refine A0<|A3 Y<|Zq<|Az (n:=11) (0::1::3::0::8::24::63::0::128::511::1023::[]) 832 A6 A6 V<|A2 0 V (AP Y)<|A2 1 V (Ap Y V)<|A2 2 V (AB (off:=5) CC V rfl A4 Y)<|A2 3 V (AP Y)<|A2 4 V (Ap Y V)<|A2 5 V (AB (off:=6) CC V rfl A4 Y)<|A2 7 V (AP Y)<|Zz (l:=[6,8])<|B1 [] [] V rfl (Ah (vs:=[_,_]) (cs:=[_,_]) Q2 T5 Wc Y V rfl V rfl V) ?_ (fun _ _ h=>h.elim) ?_;·
  rintro _ _ ⟨g,rfl,rfl⟩;refine B6<|Zz (l:=[8])<|B1 [] [] V rfl (Zw [_] Y call62 Y V (IX bq)) ?_ Bv Ai;rintro _ _ ⟨_,⟨s2,B,rfl⟩,rfl⟩;refine ⟨Aa,?_⟩;obtain ⟨O,K,rfl⟩:=B.form;refine Yw 9 1023 V (Gp (by_:=8) Q2 (V:Tryz.prog.info? 96=some Tryz.t96) V rfl V rfl Y ((Jb _ g [.pointer (some ⟨bq,5,none⟩),.pointer (some ⟨bq,6,none⟩)] 2 V AH)) Y (B) Wo Wo Fm (by((simp;omega))) (by((simp;done)))) ?_;rintro _ _ ⟨J,m,rfl⟩;obtain ⟨I,G,rfl⟩:=m.form;refine A2 10 V (Av Y)<|Ag<|Zx<|AJ<|AO V results64 Y (by exact ⟨_,m,V⟩)
 refine B1 [] [] V rfl (Zw [_] Y call62 Y V (IX bq)) ?_ Bv Ai;rintro _ _ ⟨_,⟨s2,B,rfl⟩,rfl⟩;refine ⟨Aa,?_⟩;obtain ⟨O,K,rfl⟩:=B.form;refine Yw 6 511 V (Ah (vs:=[_,_]) (cs:=[_,_]) Q2 T5 Wc Y V rfl V rfl V)<|AE fun g=>Yw 9 1023 V (Gp (by_:=8) Q2 (V:Tryz.prog.info? 96=some Tryz.t96) V rfl V rfl Y ((Jb _ g [.pointer (some ⟨bq,5,none⟩),.pointer (some ⟨bq,6,none⟩)] 2 V AH)) Y (B) Wo Wo Fm (by((simp;omega))) (by((simp;done)))) ?_;rintro _ _ ⟨J,m,rfl⟩;obtain ⟨I,G,rfl⟩:=m.form;refine A2 10 V (Av Y)<|Ag<|Zx<|AJ<|AO V results64 Y (by exact ⟨_,m,V⟩)
def Tj(g1 g7:Nat):List (Int×Value):=[(1,.agg #[.string ⟨#[114,111,119]⟩,.func (.func 61) #[] #[],.map none]),(2,.agg #[.string ⟨#[114,111,119,115]⟩,.func (.func 62) #[] #[],.map none]),(3,.agg #[.string ⟨#[99,111,117,110,116]⟩,.func (.func 62) #[] #[],.map none]),(4,.agg #[.string ⟨#[115,117,109]⟩,.func (.func 63) #[] #[],.map (some g1)]),(5,.agg #[.string ⟨#[109,105,110]⟩,.func (.func 63) #[] #[],.map (some g1)]),(6,.agg #[.string ⟨#[109,97,120]⟩,.func (.func 63) #[] #[],.map (some g1)]),(7,.agg #[.string ⟨#[106,111,105,110]⟩,.func (.func 64) #[] #[],.map (some g7)])]
theorem aF{g m:Nat}(h:∀p,p∈lm↔p∈Tj g m)(hn:(lm.map (·.1)).Nodup){k:Int}(B:1<=k/\k<=7):EI k lm=some (.agg #[.string (str (NC k)),.func (.func (XV k)) #[] #[],NR k g m]):=by
 have G:∀{k:Int} {v:Value},(k,v)∈Tj g m->EI k lm=some v:=fun B=>Cy hn ((h _).2 B);obtain h9|h9|h9|h9|h9|h9|h9:k=1\/k=2\/k=3\/k=4\/k=5\/k=6\/k=7:=by omega
 all_goals subst h9
 all_goals exact G (by simp [Tj,XV,NC,NR,str])
structure vN(l1 l7:List (Int×Value)):Prop where
 a:∀p,p∈l1↔p=(1,.string ⟨#[111,102]⟩)
 b:∀p,p∈l7↔p=(2,.string ⟨#[111,102]⟩)\/p=(1,.string ⟨#[116,111]⟩)
theorem Vv(k:Int)(g m:Nat):(NR k g m).oneCell'=true:=by
 unfold NR;split;· rfl
 · split<;>rfl
theorem rA{env:Env}{d:Option Nat}{ty:TypeId}{pos:String}{af:Array Edge}{g:Option (Nat×Bool)}{m x:Operand}{q:QM}(hq:1<=q.kd/\q.kd<=7){U W:Nat}{e1 e7:Array MapEntry}{c1 c7:Nat}{l1 l7:List (Int×Value)}(h1:Co (fun n:Int=>Value.int .i64 n) e1 c1 l1)(X:Co (fun n:Int=>Value.int .i64 n) e7 c7 l7)(J:vN l1 l7){i:Nat}(hx:∀a,ev a env m=NR q.kd U W)(hy:∀a,ev a env x=I4 (i:Int)):
 OpP prog ⟨d,.lookup 79 m x true,ty,pos,af,g⟩ env [(U,.map e1 c1),(W,.map e7 c7)] (.tuple #[.string (str (Iq q.kd i)),.bool (decide (Iq q.kd i≠[]))]):=by
 have hz:=HT;have hu:=dc
 by_cases B:q.kd=7
 · have bn:∀a,ev a env m= .map (some W):=fun a=>by rw [hx a];unfold NR;rw [AM B]
   have:=EB (d:=d) (ty:=ty) (pos:=pos) (af:=af) (g:=g) (v0:= .string (str (Iq q.kd i))) (b0:=decide (Iq q.kd i≠[])) (Cc C5 (D:=fun _=>True)) hu hz X (fun _ _=>trivial) trivial (k:=(i:Int)) (by
    unfold Iq;rw [B];by_cases I:(i:Int)=1;· rw [I,Cy X.keys ((J.b (1,_)).2 (.inr rfl))];exact ⟨rfl,rfl⟩
    · by_cases a2:(i:Int)=2
      · rw [a2,Cy X.keys ((J.b (2,_)).2 (.inl rfl))];exact ⟨rfl,rfl⟩
      · rw [DW fun p Z K=>by rcases (J.b p).1 Z with rfl|rfl<;>simp at K<;>omega,AK I,AK A1];exact ⟨rfl,rfl⟩) bn hy
   exact fun a w O=>this a w fun c hc=>O c (by rw [BT.1 hc];simp)
 · by_cases G:q.kd=4\/q.kd=5\/q.kd=6
   · have bg:∀a,ev a env m= .map (some U):=fun a=>by rw [hx a];unfold NR;rw [AK B,AM G]
     have:=EB (d:=d) (ty:=ty) (pos:=pos) (af:=af) (g:=g) (v0:= .string (str (Iq q.kd i))) (b0:=decide (Iq q.kd i≠[])) (Cc C5 (D:=fun _=>True)) hu hz h1 (fun _ _=>trivial) trivial (k:=(i:Int)) (by
      unfold Iq;by_cases I:(i:Int)=1;· rw [AM I,AM G,I,Cy h1.keys ((J.a (1,_)).2 rfl)];exact ⟨rfl,rfl⟩
      · rw [DW fun p Z K=>by rw [(J.a p).1 Z]at K;simp at K;omega,AK I,AK A1];exact ⟨rfl,rfl⟩) bg hy
     exact fun a w O=>this a w fun c hc=>O c (by rw [BT.1 hc];simp)
   · have ax:∀a,ev a env m= .map none:=fun a=>by rw [hx a];unfold NR;rw [AK B,AK G]
     have hg:Iq q.kd i=[]:=by
      unfold Iq;rw [AK G,AK B];split;· rfl
      · split
        · rename_i h9;exact absurd h9.2 B
        · rfl
     rw [hg];have:=XC (d:=d) (ty:=ty) (pos:=pos) (af:=af) (g:=g) (Cc C5 (D:=fun _=>True)) hu hz (k:=(i:Int)) trivial ax hy
     exact fun a w O=>this a w fun c hc=>by cases hc
theorem Ti:Ba prog 23 #[] [] (fun v H'=>∃b es ck lm g e1 c1 l1 m e7 c7 l7,v= .map (some b)/\Co (fun n:Int=>Value.int .i64 n) es ck lm/\(∀p,p∈lm↔p∈Tj g m)/\Co (fun n:Int=>Value.int .i64 n) e1 c1 l1/\Co (fun n:Int=>Value.int .i64 n) e7 c7 l7/\vN l1 l7/\H'=[[(b,.map es ck)],[(g,.map e1 c1)],[(m,.map e7 c7)]]):=by
 refine Se func23 ntmps23 [] ?_;intro u R;refine A0<|A3 Y<|A0<|Ze (DT)<|AE fun g=>Ze (EG (Cc C5 (D:=fun _=>True)) dc (EU _) (fun _ _=>trivial) (trivial) Y Y Y Wo) ?_;rintro _ _ ⟨rfl,I,B,af,K,W,rfl⟩;refine Zm Y<|A3 Y<|A0<|Ze (DT)<|AE fun mb=>Zv (BM (vs:=[(0,.string ⟨#[114,111,119]⟩),(1,.func (.func 61) #[] #[]),(2,.map none)]) (cs:=#[.string ⟨#[114,111,119]⟩,.func (.func 61) #[] #[],.map none]) Y (AZ (pl:=#[(0,1),(1,1),(2,1)]) V0 S6 (fun _=>by kernel_rfl) A6))<|Ze (EG (Cc C5 (D:=fun _=>True)) ab (EU _) (fun _ _=>trivial) (trivial) Y Y Y Wo) ?_;rintro _ _ ⟨rfl,q9,o9,qw,cu,gB,rfl⟩;refine Zv (BM (vs:=[(0,.string ⟨#[114,111,119,115]⟩),(1,.func (.func 62) #[] #[]),(2,.map none)]) (cs:=#[.string ⟨#[114,111,119,115]⟩,.func (.func 62) #[] #[],.map none]) Y (AZ (pl:=#[(0,1),(1,1),(2,1)]) V0 S6 (fun _=>by kernel_rfl) A6))<|Ze (EG (Cc C5 (D:=fun _=>True)) ab cu (fun _ _=>trivial) (trivial) Y Y Y Wo) ?_;rintro _ _ ⟨rfl,qa,p8,qx,cO,gF,rfl⟩;refine Zv (BM (vs:=[(0,.string ⟨#[99,111,117,110,116]⟩),(1,.func (.func 62) #[] #[]),(2,.map none)]) (cs:=#[.string ⟨#[99,111,117,110,116]⟩,.func (.func 62) #[] #[],.map none]) Y (AZ (pl:=#[(0,1),(1,1),(2,1)]) V0 S6 (fun _=>by kernel_rfl) A6))<|Ze (EG (Cc C5 (D:=fun _=>True)) ab cO (fun _ _=>trivial) (trivial) Y Y Y Wo) ?_;rintro _ _ ⟨rfl,qb,p9,qy,d9,ic,rfl⟩;refine Zm Y<|Zv (BM (vs:=[(0,.string ⟨#[115,117,109]⟩),(1,.func (.func 63) #[] #[]),(2,.map (some g))]) (cs:=#[.string ⟨#[115,117,109]⟩,.func (.func 63) #[] #[],.map (some g)]) Y (AZ (pl:=#[(0,1),(1,1),(2,1)]) V0 S6 (fun _=>by kernel_rfl) A6))<|Ze (EG (Cc C5 (D:=fun _=>True)) ab d9 (fun _ _=>trivial) (trivial) Y Y Y Wo) ?_;rintro _ _ ⟨rfl,qj,pg,qz,ek,j3,rfl⟩
 refine Zm Y<|Zv (BM (vs:=[(0,.string ⟨#[109,105,110]⟩),(1,.func (.func 63) #[] #[]),(2,.map (some g))]) (cs:=#[.string ⟨#[109,105,110]⟩,.func (.func 63) #[] #[],.map (some g)]) Y (AZ (pl:=#[(0,1),(1,1),(2,1)]) V0 S6 (fun _=>by kernel_rfl) A6))<|Ze (EG (Cc C5 (D:=fun _=>True)) ab ek (fun _ _=>trivial) (trivial) Y Y Y Wo) ?_;rintro _ _ ⟨rfl,ql,pq,r9,gm,j5,rfl⟩;refine Zm Y<|Zv (BM (vs:=[(0,.string ⟨#[109,97,120]⟩),(1,.func (.func 63) #[] #[]),(2,.map (some g))]) (cs:=#[.string ⟨#[109,97,120]⟩,.func (.func 63) #[] #[],.map (some g)]) Y (AZ (pl:=#[(0,1),(1,1),(2,1)]) V0 S6 (fun _=>by kernel_rfl) A6))<|Ze (EG (Cc C5 (D:=fun _=>True)) ab gm (fun _ _=>trivial) (trivial) Y Y Y Wo) ?_;rintro _ _ ⟨rfl,qo,pz,sj,gq,kv,rfl⟩;refine Ze (DT)<|AE fun m=>Ze (EG (Cc C5 (D:=fun _=>True)) dc (EU _) (fun _ _=>trivial) (trivial) Y Y Y Wo) ?_;rintro _ _ ⟨rfl,lw,l9,o8,O,X,rfl⟩;refine Ze (EG (Cc C5 (D:=fun _=>True)) dc O (fun _ _=>trivial) (trivial) Y Y Y Wo) ?_;rintro _ _ ⟨rfl,J,G,ax,U,Z,rfl⟩;refine Zm Y<|Zv (BM (vs:=[(0,.string ⟨#[106,111,105,110]⟩),(1,.func (.func 64) #[] #[]),(2,.map (some m))]) (cs:=#[.string ⟨#[106,111,105,110]⟩,.func (.func 64) #[] #[],.map (some m)]) Y (AZ (pl:=#[(0,1),(1,1),(2,1)]) V0 S6 (fun _=>by kernel_rfl) A6))<|Ze (EG (Cc C5 (D:=fun _=>True)) ab gq (fun _ _=>trivial) (trivial) Y Y Y Wo) ?_;rintro _ _ ⟨rfl,bn,bg,l8,gy,l5,rfl⟩;refine Zm Y<|AG Y<|Zn [0] ?_;refine Zx<|AJ<|AO V results23 Y (by
  refine ⟨mb,bn,bg,l8,g,I,B,af,m,J,G,ax,V,gy,fun p=>?_,K,U,⟨fun p=>?_,fun p=>?_⟩,V⟩
  · rw [l5,kv,j5,j3,ic,gF,gB]
    simp only [Tj,D4,RW,RC,fz];constructor;· rintro (rfl|⟨rfl|⟨rfl|⟨rfl|⟨rfl|⟨rfl|⟨rfl,-⟩,-⟩,-⟩,-⟩,-⟩,-⟩)<;>simp
    · rintro (h|h|h|h|h|h|h)<;>subst h<;>simp
  · rw [W];simp
  · rw [Z,X];simp only [RW,fz,RC]
    constructor
    · rintro (rfl|⟨rfl,-⟩)
      · exact .inl rfl
      · exact .inr rfl
    · rintro (rfl|rfl)
      · exact .inl rfl
      · exact .inr ⟨rfl,by simp⟩)
theorem aH{k:Int}(g:1<=k/\k<=7):∀(args:Array Value) (w:World),(callFunc (XV k) args).run prog w= .ok (.enter (XV k) args) w:=by
 unfold XV;split;· exact call61
 · split
   · exact call62
   · split
     · exact call64
     · exact call63
theorem aG(k:Int)(bq:Nat):Ba prog (XV k) #[I5 bq] [] (fun r H'=>∃s,Row 96 r ((HY k).map fun o=> .pointer (some ⟨bq,o,none⟩)) s/\H'=[s]):=by
 unfold XV HY;split;· exact kK bq
 · split
   · exact IX bq
   · split
     · exact fQ bq
     · exact o7 bq
theorem WG(b:Nat)(v:Value)(l:List UInt8)(G:List AA)(m:Row 5 v (l.map u8v) G)(h0:0<l.length)(I:l.length<=1000000):Ba prog 28 #[I5 b] [[(b,.cells #[I5 b,v] 87 (0,0))],G] (fun r H'=>r= .string (str l)/\H'=[[(b,.cells #[I5 b,v] 87 (0,0))]]):=by
 rcases m with⟨_,B,_⟩|⟨g,cap,cur,z,rfl,rfl,hle,hcm,hcs,htk,hfr⟩
 · simp at B;subst B;simp at h0
 · rw [B4]at hle htk⊢
   exact O8 b g cap _ l cur z h0 A1 A1 htk
theorem Rb(b:Nat)(v:Value)(l:List UInt8)(c:UInt8)(G:List AA)(g:Row 5 v (l.map u8v) G)(hb:l.length<=1099511627776):Ba prog 26 #[I5 b,.int .u8 (c.toNat:Int)] [[(b,.cells #[I5 b,v] 87 (0,0))],G] (fun r H'=>∃I B K,Row 5 I ((l++[c]).map u8v) B/\r=K/\H'=[[(b,.cells #[I5 b,I] 87 (0,0))],B]):=by
 have J:=mL;obtain ⟨gv,X,rfl⟩:=g.form;refine Se func26 ntmps26 [0,1] ?_;intro u R;refine A0<|A3 Y<|A0<|Zm Y<|Zc [_] Y call65 Y V (MH b _) ?_;rintro _ _ ⟨_,⟨rfl,rfl⟩,rfl⟩;refine A5<|A0<|Zm Y<|Zm Y<|Zp Y V<|Zh 1 S5 V rfl OS Y<|Zl S8 Y<|Zm Y<|Ze (Ah (vs:=[_]) (cs:=[_]) HE It S7 Y V rfl V rfl V)<|AE fun U=>Ze (ET (by_:=1) (news:=[_]) HE (V:Tryz.prog.info? 5=some Tryz.t5) V rfl V rfl Y g Y Wo Wh AN V Fm AH (by(rw [B4];omega)) (by(rw [B4];omega))) ?_;rintro _ _ ⟨O,m,rfl⟩;obtain ⟨Z,W,rfl⟩:=m.form;refine Zp Y V<|Zh 1 S5 V rfl OS Y<|Xe (Zs OS Y Y V)<|Z0<|Zn [] ?_;refine Zx<|A0<|A3 Y<|AJ<|AO rfl results26 Y (by exact ⟨_,O,_,(by rw [BW];exact m),rfl,rfl⟩)
theorem KA(b:Nat)(v:Value)(l x:List UInt8)(I:List AA)(g:Row 5 v (l.map u8v) I)(h0:0<x.length)(Z:l.length+x.length<=1000000):Ba prog 25 #[.string (str x),I5 b] [[(b,.cells #[I5 b,v] 87 (0,0))],I] (fun r H'=>∃J m,Row 5 J ((Sb l x).map u8v) m/\H'=[[(b,.cells #[I5 b,J] 87 (0,0))],m]):=by
 refine Se func25 ntmps25 [0,1] ?_;intro u R;refine A0<|Zc [_,_] Y call26 Y V (Rb b v l 32 I g A1) ?_;rintro _ _ ⟨_,⟨W,s2,K,B,rfl,rfl⟩,rfl⟩;refine A5<|Zg<|Zm Y<|Zc [_,_] Y call24 Y V (Pb b W (l++[32]) x s2 B h0 Hh) ?_;rintro _ _ ⟨_,⟨X,U,O,G,rfl,rfl⟩,rfl⟩;refine Z0<|Cw rfl results25 (by exact ⟨X,U,by unfold Sb;rw [show l++32::x=l++[32]++x by simp];exact G,rfl⟩)
theorem Kg(q:QM)(hq:BJ q)(Tp:TypeId)(zp:Nat×Nat):BH prog 7 #[.agg q.A59] [[(1,.cells (Lib.pow10Tab.map fun z=>Value.int .u64 z).toArray Tp zp)]] (.tuple #[.string (str (Ci q)),I4 0]):=by
 have j3:=mL;have hk:1<=q.kd/\q.kd<=7:=by obtain ⟨_,_,_,h⟩:=hq;omega
 have B:=wB hq;have ic:=xu q.kd
 have ek:=xq q.kd;have gm:=Y1 q.kd
 refine Se func7 ntmps7 [0] ?_;intro u R;refine A0<|Ze (Bx #[_,_,_,_,_,_,_])<|AE fun bq=>Za Y<|A3 Y<|Zq<|A0<|Zo Wh (A9 (cs:=q.A59) Dd C7 Y Wn (BK V)) ?_;refine Xr [_] Y call22 Y V (Jd q) ?_;rw [Cp hq];refine Zv (Br Y)<|A5<|AX Y (fun hb=>by cases hb)<|fun hb=>AC<|Zx<|Zq<|Az (n:=6) (0::0::2::7::0::31::[]) 49 A6 A6 V<|A2 1 V (AB (off:=0) CC V rfl A4 Y)<|B2 2 V AD Y ?_;refine Zz (l:=[0,4])<|B1 [true] [(2,(_,_))] V rfl (Zw [] Y call23 Y V (Ti)) ?_ Bv ?_;·
  rintro _ _ ⟨_,⟨mf,es,ck,lm,g1,e1,c1,l1,g7,e7,c7,l7,rfl,hm,hp,h1,h7,hG,rfl⟩,rfl⟩;refine ⟨Zk (Aa),?_⟩;have af:=aF hp hm.keys hk
  refine E7 3 rfl Wh (De (Cc C5 (D:=fun _=>True)) ab V0 hm (fun _ _=>trivial) (trivial) (by rw [af];first|done|rfl) Y Y) ?_;refine Yz 4 0 31 [3,2] [true,true] [(3,(_,_)),(2,(_,_))] V Y V rfl V rfl (Ea V0 (cs:=#[.string ⟨#[]⟩,.nilFunc,.map none]) A6)<|AE fun bf=>B6<|Yw 5 63 rfl (BL sizeOf81 Y Y (by intro u hu;rcases (by simpa using hu:u=_\/u=_\/u=_)with rfl|rfl|rfl<;>first|rfl|exact Vv _ _ _) Wu (by exact (rfl:_=(#[.string (str (NC q.kd)),.func (.func (XV q.kd)) #[] #[],NR q.kd g1 g7]:Array Value))) E6 AH (by exact BB _))<|CT<|Ag<|Zx<|A0<|Ze (Al zeroValue87 #[_,_])<|AE fun b=>Z0<|Zn [1,4,5] ?_;refine Zx<|Zq<|BU<|Zg<|Zh 0 S6 V rfl Fi Y<|Zl HQ Y ?_;refine Zc [_,_] Y call24 Y V (JV b (.slice none 0 0) [] (NC q.kd) [] (Fz _) gm.1 Hh) ?_;rintro _ _ ⟨_,⟨v1,d9,gB,bn,rfl,rfl⟩,rfl⟩;refine A5<|A0<|Zv (Bg (vs:=[]) (us:=[_]) Y Y)<|A3 Y<|Zq<|A0<|Zh 1 S6 V rfl sizeOf78 Y<|Zl isAgg78 Y ?_;refine Zc [_] Y (aH hk) Y V (aG q.kd bq) ?_;rintro _ _ ⟨_,⟨sf,cO,rfl⟩,rfl⟩;rcases cO with⟨_,h0,_⟩|⟨gf,cf,cur,zf,rfl,rfl,hle,hcm,hcs,htk,hfr⟩
  · exfalso;have h0:=congrArg List.length h0;rw [B4]at h0;simp at h0;simp [h0]at ek
  simp only [B4]at hle htk;simp only [B4];refine Zv (AY Q2 Y)<|Zm Y<|A5<|AR<|Zb [26,4,5,6,24,25] ?_;refine BA (e0:=[(26,_)]) (fun m e H=>∃(i:Nat) (Z:Value) (X:List AA),m=(HY q.kd).length -i/\(i<=(HY q.kd).length/\Row 5 Z ((upP q i).map u8v) X)/\e=[(26,I4 (i:Int))]/\H=[[(b,.cells #[I5 b,Z] 87 (0,0))],X]) (by exact ⟨0,v1,d9,V,⟨C0 _,bn⟩,V,V⟩) Wp ?_;rintro _ _ _ ⟨i,Z,X,rfl,⟨hi,I⟩,rfl,rfl⟩;refine A0<|Zv (Au Y Y)<|A5<|Zq<|Aq Y (fun bg=>?_) (fun bg=>?_);·
   have gy:=KY B i;obtain ⟨o,ho⟩:∃o,(HY q.kd)[i]?=some o:=⟨_,B3 A1⟩;have W:(HY q.kd).getD i 0=o:=by rw [My,ho];rfl
   have U:=uF q.kd o (DE ho);have O:=uG q.kd o (DE ho)
   have ax:cur[i]?=some (.pointer (some ⟨bq,o,none⟩)):=by
    have h:((HY q.kd).map fun o=>(.pointer (some ⟨bq,o,none⟩):Value))[i]?=some (.pointer (some ⟨bq,o,none⟩)):=by rw [DO,ho];rfl
    rw [<-htk,HC,AM A1]at h;simpa using h
   have gq:=PH q.kd i;have K:=TV _ (B o)
   refine AC<|Zx<|Zq<|AR<|A0<|Zm Y<|Bb (BV Q2 T5 Y Y X2)<|Zl isAgg96 Y (hv:=by exact ax) ?_;refine Za Y<|A3 Y<|Zq<|A0<|Zh 2 S6 V rfl sizeOf79 Y<|Zl isAgg79 Y ?_;refine Zm Y<|CS (cs:=[(g1,.map e1 c1),(g7,.map e7 c7)]) B0 (rA hk h1 h7 hG (i:=i) Y Y) V rfl ?_;refine Zm Y<|Zd Y V<|Zd Y V<|Za Y<|AG Y<|Zn [4,5,6,8,9,10,24,25,26] ?_;refine Zx<|A0<|Zm Y<|A5<|Aq Y (fun g=>?_) (fun g=>?_);·
    refine Zg<|Zm Y<|Zm Y<|Zc [_] Y (call25) Y V (KA b Z (upP q i) (Iq q.kd i) X I (o4.2 g) A1) ?_;rintro _ _ ⟨_,⟨v4,gF,cu,rfl⟩,rfl⟩;refine A5<|Zg<|Zm Y<|Zm Y<|Zp Y V<|Zl AD Y (hv:=by exact il q O U) ?_;refine Xr [_] Y call27 Y V (Mo (Jy q o) (B o) Tp zp) ?_;refine Zc [_] Y (call25) Y V (KA b _ (M4 q (upP q i) i) (Lib.itoa (Jy q o)) _ (by unfold M4;(rw [AK g];exact cu)) K.1 (by have:=Oy q (upP q i) i;omega)) ?_;rintro _ _ ⟨_,⟨v5,J,G,rfl⟩,rfl⟩;rw [show Sb (M4 q (upP q i) i) (Lib.itoa (Jy q o))=upP q (i+1) from by rw [OJ,W]]at G;refine Z0<|A8<|Zx<|Zg<|Ya (n:=1) Y Y<|Zm Y<|Z0<|Zn [26,4,5,6,24,25] ?_;refine Ab (e':=[(26,_)]) (by exact ⟨i+1,v5,J,V,⟨by omega,G⟩,V,V⟩)
   refine AC<|Zx<|Zg<|Zm Y<|Zm Y<|Zp Y V<|Zl AD Y (hv:=by exact il q O U) ?_;refine Xr [_] Y call27 Y V (Mo (Jy q o) (B o) Tp zp) ?_;refine Zc [_] Y (call25) Y V (KA b _ (M4 q (upP q i) i) (Lib.itoa (Jy q o)) _ (by unfold M4;(rw [AM (HI.1 g)];exact I)) K.1 (by have:=Oy q (upP q i) i;omega)) ?_;rintro _ _ ⟨_,⟨v5,J,G,rfl⟩,rfl⟩;rw [show Sb (M4 q (upP q i) i) (Lib.itoa (Jy q o))=upP q (i+1) from by rw [OJ,W]]at G;refine Z0<|A8<|Zx<|Zg<|Ya (n:=1) Y Y<|Zm Y<|Z0<|Zn [26,4,5,6,24,25] ?_;refine Ab (e':=[(26,_)]) (by exact ⟨i+1,v5,J,V,⟨by omega,G⟩,V,V⟩)
  obtain rfl:i=(HY q.kd).length:=by omega
  refine Ay<|Zt<|Zt<|AU<|Zx<|A0<|Zc [_] Y call28 Y V (WG b Z _ X I (KY B _).1 (by have:=KY B (HY q.kd).length;omega)) ?_;rintro _ _ ⟨_,⟨rfl,rfl⟩,rfl⟩;refine Za Y<|A3 Y<|AJ<|Cv V results7 Y Y (by exact ⟨V,V⟩)
 refine B1 [true] [(2,(_,_))] V rfl (Ea V0 (cs:=#[.string ⟨#[]⟩,.nilFunc,.map none]) A6) ?_ (fun _ _ h=>h.elim) Ai;rintro _ _ ⟨bf,rfl,rfl⟩;refine B6<|Zz (l:=[0])<|B1 [true] [(2,(_,_))] V rfl (Zw [] Y call23 Y V (Ti)) ?_ Bv Ai;rintro _ _ ⟨_,⟨mf,es,ck,lm,g1,e1,c1,l1,g7,e7,c7,l7,rfl,hm,hp,h1,h7,hG,rfl⟩,rfl⟩;refine ⟨Zk (Aa),?_⟩;have af:=aF hp hm.keys hk
 refine E7 3 rfl Wh (De (Cc C5 (D:=fun _=>True)) ab V0 hm (fun _ _=>trivial) (trivial) (by rw [af];first|done|rfl) Y Y) ?_;refine Yw 5 63 rfl (BL sizeOf81 Y Y (by intro u hu;rcases (by simpa using hu:u=_\/u=_\/u=_)with rfl|rfl|rfl<;>first|rfl|exact Vv _ _ _) Wu (by exact (rfl:_=(#[.string (str (NC q.kd)),.func (.func (XV q.kd)) #[] #[],NR q.kd g1 g7]:Array Value))) E6 AH (by exact BB _))<|CT<|Ag<|Zx<|A0<|Ze (Al zeroValue87 #[_,_])<|AE fun b=>Z0<|Zn [1,4,5] ?_;refine Zx<|Zq<|BU<|Zg<|Zh 0 S6 V rfl Fi Y<|Zl HQ Y ?_;refine Zc [_,_] Y call24 Y V (JV b (.slice none 0 0) [] (NC q.kd) [] (Fz _) gm.1 Hh) ?_;rintro _ _ ⟨_,⟨v1,d9,gB,bn,rfl,rfl⟩,rfl⟩;refine A5<|A0<|Zv (Bg (vs:=[]) (us:=[_]) Y Y)<|A3 Y<|Zq<|A0<|Zh 1 S6 V rfl sizeOf78 Y<|Zl isAgg78 Y ?_;refine Zc [_] Y (aH hk) Y V (aG q.kd bq) ?_;rintro _ _ ⟨_,⟨sf,cO,rfl⟩,rfl⟩;rcases cO with⟨_,h0,_⟩|⟨gf,cf,cur,zf,rfl,rfl,hle,hcm,hcs,htk,hfr⟩
 · exfalso;have h0:=congrArg List.length h0;rw [B4]at h0;simp at h0;simp [h0]at ek
 simp only [B4]at hle htk;simp only [B4];refine Zv (AY Q2 Y)<|Zm Y<|A5<|AR<|Zb [26,4,5,6,24,25] ?_;refine BA (e0:=[(26,_)]) (fun m e H=>∃(i:Nat) (Z:Value) (X:List AA),m=(HY q.kd).length -i/\(i<=(HY q.kd).length/\Row 5 Z ((upP q i).map u8v) X)/\e=[(26,I4 (i:Int))]/\H=[[(b,.cells #[I5 b,Z] 87 (0,0))],X]) (by exact ⟨0,v1,d9,V,⟨C0 _,bn⟩,V,V⟩) Wp ?_;rintro _ _ _ ⟨i,Z,X,rfl,⟨hi,I⟩,rfl,rfl⟩;refine A0<|Zv (Au Y Y)<|A5<|Zq<|Aq Y (fun bg=>?_) (fun bg=>?_);·
  have gy:=KY B i;obtain ⟨o,ho⟩:∃o,(HY q.kd)[i]?=some o:=⟨_,B3 A1⟩;have W:(HY q.kd).getD i 0=o:=by rw [My,ho];rfl
  have U:=uF q.kd o (DE ho);have O:=uG q.kd o (DE ho)
  have ax:cur[i]?=some (.pointer (some ⟨bq,o,none⟩)):=by
   have h:((HY q.kd).map fun o=>(.pointer (some ⟨bq,o,none⟩):Value))[i]?=some (.pointer (some ⟨bq,o,none⟩)):=by rw [DO,ho];rfl
   rw [<-htk,HC,AM A1]at h;simpa using h
  have gq:=PH q.kd i;have K:=TV _ (B o)
  refine AC<|Zx<|Zq<|AR<|A0<|Zm Y<|Bb (BV Q2 T5 Y Y X2)<|Zl isAgg96 Y (hv:=by exact ax) ?_;refine Za Y<|A3 Y<|Zq<|A0<|Zh 2 S6 V rfl sizeOf79 Y<|Zl isAgg79 Y ?_;refine Zm Y<|CS (cs:=[(g1,.map e1 c1),(g7,.map e7 c7)]) B0 (rA hk h1 h7 hG (i:=i) Y Y) V rfl ?_;refine Zm Y<|Zd Y V<|Zd Y V<|Za Y<|AG Y<|Zn [4,5,6,8,9,10,24,25,26] ?_;refine Zx<|A0<|Zm Y<|A5<|Aq Y (fun g=>?_) (fun g=>?_);·
   refine Zg<|Zm Y<|Zm Y<|Zc [_] Y (call25) Y V (KA b Z (upP q i) (Iq q.kd i) X I (o4.2 g) A1) ?_;rintro _ _ ⟨_,⟨v4,gF,cu,rfl⟩,rfl⟩;refine A5<|Zg<|Zm Y<|Zm Y<|Zp Y V<|Zl AD Y (hv:=by exact il q O U) ?_;refine Xr [_] Y call27 Y V (Mo (Jy q o) (B o) Tp zp) ?_;refine Zc [_] Y (call25) Y V (KA b _ (M4 q (upP q i) i) (Lib.itoa (Jy q o)) _ (by unfold M4;(rw [AK g];exact cu)) K.1 (by have:=Oy q (upP q i) i;omega)) ?_;rintro _ _ ⟨_,⟨v5,J,G,rfl⟩,rfl⟩;rw [show Sb (M4 q (upP q i) i) (Lib.itoa (Jy q o))=upP q (i+1) from by rw [OJ,W]]at G;refine Z0<|A8<|Zx<|Zg<|Ya (n:=1) Y Y<|Zm Y<|Z0<|Zn [26,4,5,6,24,25] ?_;refine Ab (e':=[(26,_)]) (by exact ⟨i+1,v5,J,V,⟨by omega,G⟩,V,V⟩)
  refine AC<|Zx<|Zg<|Zm Y<|Zm Y<|Zp Y V<|Zl AD Y (hv:=by exact il q O U) ?_;refine Xr [_] Y call27 Y V (Mo (Jy q o) (B o) Tp zp) ?_;refine Zc [_] Y (call25) Y V (KA b _ (M4 q (upP q i) i) (Lib.itoa (Jy q o)) _ (by unfold M4;(rw [AM (HI.1 g)];exact I)) K.1 (by have:=Oy q (upP q i) i;omega)) ?_;rintro _ _ ⟨_,⟨v5,J,G,rfl⟩,rfl⟩;rw [show Sb (M4 q (upP q i) i) (Lib.itoa (Jy q o))=upP q (i+1) from by rw [OJ,W]]at G;refine Z0<|A8<|Zx<|Zg<|Ya (n:=1) Y Y<|Zm Y<|Z0<|Zn [26,4,5,6,24,25] ?_;refine Ab (e':=[(26,_)]) (by exact ⟨i+1,v5,J,V,⟨by omega,G⟩,V,V⟩)
 obtain rfl:i=(HY q.kd).length:=by omega
 refine Ay<|Zt<|Zt<|AU<|Zx<|A0<|Zc [_] Y call28 Y V (WG b Z _ X I (KY B _).1 (by have:=KY B (HY q.kd).length;omega)) ?_;rintro _ _ ⟨_,⟨rfl,rfl⟩,rfl⟩;refine Za Y<|A3 Y<|AJ<|Cv V results7 Y Y (by exact ⟨V,V⟩)
end Go.Proofs.YtfhjaegddfehhaaGreatDoor
namespace Go.Proofs.YtfhjaegddfehhaaGreatDoor
open Go.Proofs.Tryz
open Go Go.RowKit Gw
set_option maxRecDepth 100000
attribute [local irreducible] Gw.At Gw.Nx Gw.Ops
open Go.Sort
theorem uR(xs:List ByteArray):xs.map Value.string=(xs.map fun x=>x.data.toList).map encStr:=by
 rw [Kf];rfl
theorem uV(ls:List (List UInt8)):ls.map encStr=(ls.map fun l=>(⟨l.toArray⟩:ByteArray)).map Value.string:=by
 rw [Kf];rfl
theorem Ru{v:Value}{zs:List ByteArray}{s:List AA}(hr:Row 9 v (zs.map Value.string) s)(hl:zs.length<=1000000):Ba prog 47 #[v] [s] (fun r H'=>∃(zs':List ByteArray) (s':List AA),r= .tuple #[]/\zs'.Perm zs/\(zs'.Pairwise fun x y=>x.data.toList<=y.data.toList)/\Row 9 v (zs'.map Value.string) s'/\H'=[s']):=fun u R w hs=>by
 obtain ⟨ls,m⟩:∃ls,ls=zs.map fun x=>x.data.toList:=⟨_,rfl⟩;have I:ls.length=zs.length:=by rw [m,B4]
 obtain ⟨G,B⟩:∃G,G=ls.mergeSort fun x y=>decide (x<=y):=⟨_,rfl⟩;have J:G.Perm ls:=by rw [B];exact oB _ _
 have W:G.Pairwise fun x y=>x<=y:=by
  have h:=List.pairwise_mergeSort (le:=fun x y:List UInt8=>decide (x<=y)) (fun a b c h1 h2=>by simp only [Fl]at*;exact List.le_trans h1 h2) (fun a b=>by simp only [S2,Fl];exact List.le_total a b) ls;rw [B];simpa only [Fl]using h
 have O:(G.map fun l=>(⟨l.toArray⟩:ByteArray)).Perm zs:=by
  have h:=J.map fun l=>(⟨l.toArray⟩:ByteArray);rw [m,Kf]at h;have e:zs.map ((fun l:List UInt8=>(⟨l.toArray⟩:ByteArray))∘fun x=>x.data.toList)=zs:=by
   conv=>rhs;rw [<-List.map_id zs]
   rfl
  rwa [e]at h
 have U:(G.map fun l=>(⟨l.toArray⟩:ByteArray)).Pairwise fun x y=>x.data.toList<=y.data.toList:=by rw [Th];exact W
 rcases hr with⟨rfl,h0,rfl⟩|⟨g,cap,cur,z,rfl,rfl,hle,hcm,hcs,htk,hfr⟩
 · have hx:zs=[]:=by simpa using h0
   subst hx;refine (Tryz.slices_Sort_string_none none 0 w).mono ?_;rintro e w' ⟨rfl,rfl⟩;exact .inl ⟨_,[[]],V,⟨[],[],V,.refl _,.nil,by simp [Fz],V⟩,hs⟩
 · rw [uR,<-m]at htk
   rw [B4]at hle⊢;rw [B4]at htk;have K:Sat u ([(g,.cells cur 9 z)]::R) w:=by simpa using hs
   have Z:=K.get (g,.cells cur 9 z) B0;have hH:=Tf (zs:=ls) Z A1 hfr htk
   have hc:=Tryz.slices_Sort_string g 0 cap ls w hH (HS.1 Z).1 A1;rw [I]at hc;refine hc.mono ?_;rintro e w' ⟨rfl,n,os,rfl⟩;rw [<-B];have X:=J.length_eq
   refine .inl ⟨_,[[(g,.cells (putCells encStr 0 G.toArray cur) 9 z)]],V,⟨_,_,V,O,U,?_,V⟩,by simpa using K.sorted (n:=n) _ os⟩;refine .inr ⟨g,cap,_,z,by rw [B4,B4,X,I],rfl,by rw [B4,B4];omega,hcm,by rw [Mf];exact hcs,?_,by rw [Mf];exact hfr⟩;rw [<-uV,B4];exact YX _ _ A1
theorem fK(mi:Nat):Ba prog 55 #[.map (some mi)] [] (fun r H'=>∃b,r= .func (.func 106) #[] #[I5 b]/\H'=[[(b,.cells #[.map (some mi)] 106 (0,0))]]):=by
 refine Se func55 ntmps55 [0] ?_;intro u R;refine A0<|Ze (Bx #[_])<|AE fun b=>A3 Y<|A0<|Zv (Bg (vs:=[]) (us:=[_]) Y Y)<|A3 Y<|AJ<|AO V results55 Y (by exact ⟨b,V,V⟩)
variable{es:Array MapEntry}{ck:Nat}{lm:List (ByteArray×Value)}
theorem fM(U:Co (fun n:ByteArray=>Value.string n) es ck lm)(b mi:Nat):KT prog 106 #[I5 b] [[(b,.cells #[.map (some mi)] 106 (0,0))]] (fun _ s=>(mi,Obj.map es ck)∈s) (fun x:ByteArray=>#[.string x]) (Mw lm) (fun ys=>ys.Perm (lm.map (·.1))):=by
 intro l J W hy s B;refine Se func106 ntmps106 [0,1] ?_;intro u R;refine A0<|Zl N5 Y<|Ze (LU Nd Y (Ee Wo (W _ s B)))<|AE fun ib=>A5<|AR<|Zb [0,5] ?_;refine BA (e0:=[]) (fun m e H=>∃(js:List Nat) (seen:Array Nat) (s:List AA),m=lm.length -js.length/\(Iu es js seen/\J ((DR lm js).map (·.1)) s)/\e=[]/\H=[[(ib,.mapIter (some mi) ck seen ck)],s]) (by exact ⟨[],#[],s,V,⟨KL _,B⟩,V,V⟩) Wp ?_;rintro _ _ _ ⟨js,seen,s,rfl,⟨I,B⟩,rfl,rfl⟩;have X:=F8 es.size js I.nodup I.lt
 rw [U.size]at X;refine A0<|Ze (NY U I Y Wo (Ee Wo (W _ s B))) ?_;rintro _ _ af;rcases af with⟨G,rfl,rfl⟩|⟨jn,pn,seen2,hpn,hjn,hi2,rfl,rfl⟩
 ·
  refine Zd Y V<|A5<|Zq<|AX Y (fun g=>by cases g)<|fun g=>Ay<|Zt<|Zt<|AU<|Cw V results106 (by exact ⟨_,s,G.map _,V,B⟩)
 refine Zd Y V<|A5<|Zq<|AX Y (fun g=>?_) (fun g=>?_);·
  have O:=F8 es.size (js++[jn]) hi2.nodup hi2.lt;rw [U.size,B7,E3]at O;have bn:(js++[jn]).length=js.length+1:=by rw [B7];rfl
  have ax:Mw lm ((DR lm js).map (·.1)++[pn.1]):=by
   have h:=Sw (l:=lm) hi2.nodup (fun j hj=>by rw [<-U.size];exact hi2.lt j hj);rw [G5 lm js hpn,BW]at h;exact h
  have bg:=hy ((DR lm js).map (·.1)) pn.1 s ax B;refine AC<|Zx<|AR<|Zq<|Zg ?_;have Z:=W _ s B
  refine CS (cs:=[(ib,.mapIter (some mi) ck seen2 ck),(mi,.map es ck)]) (by simp [Z]) (JG U hi2 hpn Y) V rfl<|Zd Y V<|A3 Y<|A0<|Zm Y<|Zm Y<|Ze (GZ (vs:=[_]) Y Y (bg) Wp) ?_;rintro _ _ ⟨_,⟨s',rfl,rfl,K⟩,rfl⟩;rw [show(DR lm js).map (·.1)++[pn.1]=(DR lm (js++[jn])).map (·.1) by rw [G5 lm js hpn,BW];rfl]at K;refine Zv (Br Y)<|A5<|AX Y (fun g=>by cases g)<|fun g=>AC<|A8<|Zn [0,5] ?_;refine Ab (e':=[]) (by exact ⟨js++[jn],seen2,s',V,⟨hi2,K⟩,V,V⟩)
 cases g
variable{M:List AA}
theorem RF(Z:Co (fun n:ByteArray=>Value.string n) es ck lm)(hn:lm.length<=1000000)(b mi:Nat)(O:(mi,Obj.map es ck)∈M):Ba prog 164 #[.slice none 0 0,.func (.func 106) #[] #[I5 b]] [[(b,.cells #[.map (some mi)] 106 (0,0))],M] (fun r H'=>∃(zs:List ByteArray) (s':List AA),zs.Perm (lm.map (·.1))/\Row 9 r (zs.map Value.string) s'/\H'=[M,s']):=by
 have af:=mL;refine DL func164 V ntmps164 V ?_;intro u R;refine Zb [0,1] ?_;refine A0<|Ze (Bx #[_])<|AE fun bs=>A3 Y<|Zq<|A0<|Zm Y<|A5<|AR<|Zb [2,6] ?_;refine BU<|J6 (H0:=_) (R:=_) (I:=(fun(pre:List ByteArray) H=>∃m s2,H=[[(bs,.cells #[m] 45 (0,0))],s2,M]/\Row 9 m (pre.map Value.string) s2)) (E:=fun x e Hn=>e=[(5,.string x),(7,.string x)]/\Hn=[]) rfl Y call106 (fM Z b mi) (fun pre H1 c d h=>by obtain ⟨m,s2,rfl,_⟩:=h;simp [O]) Y rfl Wp (⟨_,[],rfl,Fz _⟩) ?ha_2 ?hbd_2 ?hk_2
 case ha_2=>
  intro _ x _ _;refine Zg<|AG Y<|Lv (e:=[(5,_),(7,_)]) (Hn:=[]) ?_;exact ⟨V,V⟩
 case hbd_2=>
  intro l pre x u e9 W H1 R1 r9 U X G;obtain ⟨rfl,rfl⟩:=G;obtain ⟨m,s2,rfl,B⟩:=X;have ax:=U.len
  obtain ⟨gv,cv,rfl⟩:=B.form;refine AR<|Zg<|Zl Hc Y<|Zm Y<|Ze (Ah (vs:=[_]) (cs:=[_]) D2 Fi HT Y V rfl V rfl V)<|AE fun b2=>Ze (ET (by_:=16) (news:=[_]) D2 (V:Tryz.prog.info? 9=some Tryz.t9) V rfl V rfl Y B Y Wo Wh AN V Fm AH (by(simp only [B4];omega)) (by(simp only [B4];omega))) ?_;rintro _ _ ⟨sq,g,rfl⟩;obtain ⟨gq,cq,rfl⟩:=g.form;refine Xe (Zs HB Y Y rfl)<|Z0<|A8<|F7 rfl (by exact ⟨_,_,rfl,by rw [BW];exact g⟩)
 intro D1 ys H2 K J;obtain ⟨m,s2,rfl,B⟩:=J;refine Zn [2] ?_;refine A8<|Zx<|A0<|Zl Hc Y<|A3 Y<|AJ<|GN V (dM results164 Y) Wo (by exact ⟨ys,s2,K,B,V⟩)
theorem Uf(m:Co (fun n:ByteArray=>Value.string n) es ck lm)(hn:lm.length<=1000000)(b mi:Nat)(g:(mi,Obj.map es ck)∈M):Ba prog 105 #[.func (.func 106) #[] #[I5 b]] [[(b,.cells #[.map (some mi)] 106 (0,0))],M] (fun r H'=>∃(zs:List ByteArray) (s':List AA),zs.Perm (lm.map (·.1))/\Row 9 r (zs.map Value.string) s'/\H'=[M,s']):=by
 refine Se func105 ntmps105 [0] ?_;intro u R;refine A0<|A3 Y<|A0<|Zm Y<|Zc [_,_] Y call164 Y V (RF m hn b mi g) ?_;rintro _ _ ⟨_,⟨zs,s2,B,G,rfl⟩,rfl⟩;refine A3 Y<|AJ<|AO V results105 Y (by exact ⟨zs,s2,B,G,V⟩)
theorem Wm(O:Co (fun n:ByteArray=>Value.string n) es ck lm)(hn:lm.length<=1000000)(b mi:Nat)(g:(mi,Obj.map es ck)∈M):Ba prog 54 #[.func (.func 106) #[] #[I5 b]] [[(b,.cells #[.map (some mi)] 106 (0,0))],M] (fun r H'=>∃(zs:List ByteArray) (s':List AA),zs.Perm (lm.map (·.1))/\(zs.Pairwise fun x y=>x.data.toList<=y.data.toList)/\Row 9 r (zs.map Value.string) s'/\H'=[M,s']):=by
 refine Se func54 ntmps54 [0] ?_;intro u R;refine A0<|A3 Y<|A0<|Zm Y<|Zc [_] Y call105 Y V (Uf O hn b mi g) ?_;rintro _ _ ⟨_,⟨zs,s2,K,U,rfl⟩,rfl⟩;have I:=K.length_eq
 rw [B4]at I;refine A3 Y<|A0<|Zm Y<|Zc [_] Y call47 Y V (Ru U A1) ?_;rintro _ _ ⟨_,⟨J,W,rfl,m,G,B,rfl⟩,rfl⟩;refine A5<|A0<|Zm Y<|A3 Y<|AJ<|AO V results54 Y (by exact ⟨J,W,m.trans K,G,B,V⟩)
end Go.Proofs.YtfhjaegddfehhaaGreatDoor
namespace Go.Proofs.YtfhjaegddfehhaaGreatDoor
open Go.Proofs.Tryz
open Go Go.RowKit Gw
set_option maxRecDepth 100000
attribute [local irreducible] Gw.At Gw.Nx Gw.Ops
structure Bt where
 b:Nat
 key:ByteArray
 te:Int
 sz:Int
structure Bl where
 r:Nat
 E:List Bt
 nx:Nat->Value
 bf:Nat->Value
 cap:Int
 sh:Value
 us:Value
 mv:Value
 fr:Int
def DY(f:Nat->Value)(a:Nat)(v:Value):Nat->Value:=fun x=>if x=a then v else f x
theorem IG(f:Nat->Value)(a:Nat)(v:Value):DY f a v a=v:=AM rfl
variable{x:Nat}
theorem Ed(f:Nat->Value){a:Nat}(v:Value)(h:x≠a):DY f a v x=f x:=AK h
def Bt.ch(nx bf:Nat->Value)(e:Bt):AA:=(e.b,.cells #[.string e.key,I4 e.te,I4 e.sz,bf e.b,nx e.b] 155 (0,0))
def Bl.S(z:Bl):List AA:=(z.r,.cells #[.string ⟨#[]⟩,I4 0,I4 0,z.bf z.r,z.nx z.r,I4 z.cap,z.sh,z.us,z.mv,I4 z.fr] 159 (0,0))::z.E.map (Bt.ch z.nx z.bf)
def Bl.bl(z:Bl):List Nat:=z.r::z.E.map (·.b)
theorem Bl.keys(z:Bl):z.S.map (·.1)=z.bl:=by
 unfold Bl.S Bl.bl;rw [DQ,Kf];rfl
theorem Bl.root(z:Bl):(z.r,Obj.cells #[.string ⟨#[]⟩,I4 0,I4 0,z.bf z.r,z.nx z.r,I4 z.cap,z.sh,z.us,z.mv,I4 z.fr] 159 (0,0))∈z.S:=E4 ..
variable{e:Bt}
theorem Bl.node(z:Bl)(g:e∈z.E):(e.b,Obj.cells #[.string e.key,I4 e.te,I4 e.sz,z.bf e.b,z.nx e.b] 155 (0,0))∈z.S:=EV _ (DP (f:=Bt.ch z.nx z.bf) g)
theorem GI{α β:Type}{f:α->β}:∀{l:List α},(l.map f).Nodup->∀{x y:α},x∈l->y∈l->f x=f y->x=y
 |a::l,hn,x,y,hx,hy,e=>by
  rw [DQ,Hj]at hn;rcases D4.1 hx with h1|h1
  · rcases D4.1 hy with h2|h2
    · rw [h1,h2]
    · exact absurd (by rw [<-h1,e];exact DP h2) hn.1
  · rcases D4.1 hy with h2|h2
    · exact absurd (by rw [<-h2,<-e];exact DP h1) hn.1
    · exact GI hn.2 h1 h2 e
theorem Bl.upd(z:Bl)(J:z.bl.Nodup){a:Nat}(B:a∈z.bl):∃c T,(a,Obj.cells c T (0,0))∈z.S/\(c.size=5\/c.size=10)/\∀v,IQ a (.cells (c.setIfInBounds 4 v) T (0,0)) z.S=({z with nx:=DY z.nx a v}:Bl).S/\IQ a (.cells (c.setIfInBounds 3 v) T (0,0)) z.S=({z with bf:=DY z.bf a v}:Bl).S:=by
 have g:(z.r::z.E.map (·.b)).Nodup:=J;rw [Hj]at g;rcases D4.1 B with rfl|B
 · refine ⟨_,_,z.root,.inr rfl,fun v=>?_⟩
   have hn:∀e∈z.E,e.b≠z.r:=fun e m h=>g.1 (h▸DP m);constructor<;>
   · unfold IQ Bl.S
     rw [DQ,AM rfl];congr 1;· simp only [IG];rfl
     · rw [Kf]
       refine Vc fun e m=>?_;show(if e.b=z.r then _ else _)=_
       rw [AK (hn e m)];unfold Bt.ch;simp only [Ed _ _ (hn e m)]
 · obtain ⟨e,m,rfl⟩:=Bm.1 B
   refine ⟨_,_,z.node m,.inl V,fun v=>?_⟩;have I:z.r≠e.b:=fun h=>g.1 (h▸DP m)
   constructor<;>
   · unfold IQ Bl.S
     rw [DQ,AK I];congr 1;· simp only [Ed _ _ I]
     · rw [Kf]
       refine Vc fun e' G=>?_;show(if e'.b=e.b then _ else _)=_
       split
       · rename_i h
         obtain rfl:=GI g.2 G m h;unfold Bt.ch;simp only [IG];rfl
       · rename_i h
         unfold Bt.ch;simp only [Ed _ _ h]
theorem Bl.fr_upd(z:Bl)(B:z.bl.Nodup)(v:Int):IQ z.r (.cells ((#[.string ⟨#[]⟩,I4 0,I4 0,z.bf z.r,z.nx z.r,I4 z.cap,z.sh,z.us,z.mv,I4 z.fr]:Array Value).setIfInBounds 9 (I4 v)) 159 (0,0)) z.S=({z with fr:=v}:Bl).S:=by
 have g:(z.r::z.E.map (·.b)).Nodup:=B;rw [Hj]at g;have hn:∀e∈z.E,e.b≠z.r:=fun e m h=>g.1 (h▸DP m)
 unfold IQ Bl.S;rw [DQ,AM rfl];congr 1;rw [Kf];refine Vc fun e m=>?_;show(if e.b=z.r then _ else _)=_
 rw [AK (hn e m)]
def F5:Nat->List Nat->Nat->List (Nat×Nat)
 |a,[],c=>[(a,c)]
 |a,b::l,c=>(a,b)::F5 b l c
theorem Nk:∀(a:Nat) (l:List Nat),∃A p,∀y,F5 a l y=A++[(p,y)]
 |a,[]=>⟨[],a,fun _=>rfl⟩
 |a,b::l=>by
  obtain ⟨A,p,h⟩:=Nk b l;exact ⟨(a,b)::A,p,fun y=>by rw [F5,h];rfl⟩
theorem eF:∀(l:List Nat) (c:Nat),∃n B,∀x,F5 x l c=(x,n)::B
 |[],c=>⟨c,[],fun _=>rfl⟩
 |b::l,c=>⟨b,F5 b l c,fun _=>rfl⟩
theorem Mg:∀(a:Nat) (l:List Nat) (x:Nat) (m:List Nat) (c:Nat),F5 a (l++x::m) c=F5 a l x++F5 x m c
 |a,[],x,m,c=>rfl
 |a,b::l,x,m,c=>by
  show(a,b)::F5 b (l++x::m) c=_;rw [Mg b l x m c];rfl
theorem JB:∀(a:Nat) (l:List Nat) (c:Nat),(F5 a l c).map (·.1)=a::l
 |a,[],c=>rfl
 |a,b::l,c=>by rw [F5,DQ,JB b l c]
theorem KC:∀(a:Nat) (l:List Nat) (c:Nat),(F5 a l c).map (·.2)=l++[c]
 |a,[],c=>rfl
 |a,b::l,c=>by rw [F5,DQ,KC b l c];rfl
def pV(b:Nat):Value:=I5 b
def JQ(nx bf:Nat->Value)(r:Nat)(l:List Nat):Prop:=∀q∈F5 r l r,nx q.1=pV q.2/\bf q.2=pV q.1
variable{bf nx:Nat->Value}{r:Nat}
theorem q8(h:nx r=pV r)(h2:bf r=pV r):JQ nx bf r []:=fun q g=>by
 obtain rfl:=BT.1 g;exact ⟨h,h2⟩
variable{l:List Nat}
theorem SN(hn:(r::l).Nodup):((F5 r l r).map (·.1)).Nodup/\((F5 r l r).map (·.2)).Nodup:=by
 rw [JB,KC];refine ⟨hn,?_⟩;rw [Hj]at hn;rw [H3];exact ⟨hn.2,by simp,fun x hx y hy=>by rw [BT.1 hy];rintro rfl;exact hn.1 hx⟩
theorem qA{l1 l2:List Nat}(hn:(r::(l1++x::l2)).Nodup)(h:JQ nx bf r (l1++x::l2)):∃p n,p∈r::(l1++l2)/\n∈r::(l1++l2)/\bf x=pV p/\nx x=pV n/\JQ (DY nx p (pV n)) (DY bf n (pV p)) r (l1++l2):=by
 obtain ⟨A,p,K⟩:=Nk r l1;obtain ⟨n,B,O⟩:=eF l2 r;have e1:F5 r (l1++x::l2) r=A++(p,x)::(x,n)::B:=by rw [Mg,K,O];simp
 have e2:F5 r (l1++l2) r=A++(p,n)::B:=by
  cases l2 with
  |nil=>
   have J:=O 0;injection J with h2 h3
   injection h2 with _ h2
   subst h2 h3;rw [DB,K]
  |cons y m=>
   have J:=O 0;injection J with h2 h3
   injection h2 with _ h2
   subst h2;rw [Mg,K,<-h3];simp
 obtain ⟨I,d2⟩:=SN hn;rw [e1,BW,DQ,DQ,H3,Hj,Hj]at I d2;have U:p∈r::(l1++l2):=by
  have:=JB r (l1++l2) r;rw [e2]at this;rw [<-this];simp
 have g:n∈r::(l1++l2):=by
  have:=KC r (l1++l2) r;rw [e2]at this;have G:n∈l1++l2++[r]:=by rw [<-this];simp
  rcases B9.1 G with G|G
  · exact EV _ G
  · rw [BT.1 G];exact E4 ..
 refine ⟨p,n,U,g,(h _ (by rw [e1];simp:(p,x)∈_)).2,(h _ (by rw [e1];simp:(x,n)∈_)).1,fun q g=>?_⟩;rw [e2]at g;rcases B9.1 g with g|g
 · have h0:=h q (by rw [e1];simp [g])
   rw [Ed _ _ fun e=>I.2.2 _ (DP g) p (E4 ..) e,Ed _ _ fun e=>d2.2.2 _ (DP g) n (EV _ (E4 ..)) e];exact h0
 · rcases D4.1 g with rfl|g
   · exact ⟨IG _ _ _,IG _ _ _⟩
   · have h0:=h q (by rw [e1];simp [g])
     rw [Ed _ _ fun e=>I.2.1.1 (by show p∈_;rw [<-e];exact EV _ (DP g)),Ed _ _ fun e=>d2.2.1.2.1 (by show n∈_;rw [<-e];exact DP g)];exact h0
theorem qB(hn:(r::l).Nodup)(hx:x∉r::l)(h:JQ nx bf r l):∃p,p∈r::l/\bf r=pV p/\JQ (DY (DY nx x (pV r)) p (pV x)) (DY (DY bf x (pV p)) r (pV x)) r (l++[x]):=by
 obtain ⟨A,p,O⟩:=Nk r l;have e1:=O r
 have e2:F5 r (l++[x]) r=A++(p,x)::[(x,r)]:=by rw [Mg,O];simp [F5]
 obtain ⟨K,d2⟩:=SN hn;rw [e1,BW,H3]at K d2;have U:p∈r::l:=by
  have:=JB r l r;rw [e1]at this;rw [<-this];simp
 have I:x≠r:=fun e=>hx (by rw [e];exact E4 ..);have J:x≠p:=fun e=>hx (by rw [e];exact U)
 refine ⟨p,U,(h _ (by rw [e1];simp:(p,r)∈_)).2,fun q g=>?_⟩;rw [e2]at g;have B:∀q∈A,q.1∈r::l:=fun q g=>by
  rw [<-JB r l r,e1];exact DP (by simp [g])
 have G:∀q∈A,q.2≠x:=fun q g e=>by
  have m:q.2∈l++[r]:=by rw [<-KC r l r,e1];exact DP (by simp [g])
  rw [e]at m;rcases B9.1 m with m|m
  · exact hx (EV _ m)
  · exact I (BT.1 m)
 rcases B9.1 g with g|g
 · have h0:=h q (by rw [e1];simp [g])
   rw [Ed _ _ fun e=>K.2.2 _ (DP g) p (E4 ..) e,Ed _ _ fun e=>hx (by rw [<-e];exact B q g),Ed _ _ fun e=>d2.2.2 _ (DP g) r (E4 ..) e,Ed _ _ (G q g)];exact h0
 · rcases D4.1 g with rfl|g
   · exact ⟨IG _ _ _,by show DY _ _ _ x=_;rw [Ed _ _ I,IG]⟩
   · obtain rfl:=BT.1 g
     exact ⟨by show DY _ _ _ x=_;rw [Ed _ _ J,IG],IG _ _ _⟩
theorem iC(r:Nat)(T:TypeId)(zz:Nat×Nat)(g m B W U G I J K O:Value):Ba prog 68 #[I5 r] [[(r,.cells #[g,m,B,W,U,G,I,J,K,O] T (0,0))]] (fun v H'=>v=undef/\H'=[[(r,.cells #[g,m,B,I5 r,I5 r,G,I,J,K,O] T (0,0))]]):=by
 refine Se func68 ntmps68 [0] ?_;intro u R;refine Az (n:=16) (0::0::0::4::12::0::32::96::29::285::797::1821::4095::8191::16383::32767::[]) 34816 A6 A6 V<|A2 0 V (AP Y)<|A2 1 V (AP Y)<|A2 2 V (AP Y)<|A2 3 V (Ap Y V)<|A2 4 V (AB (off:=0) fR V rfl eC Y)<|A2 5 V (AP Y)<|A2 6 V (Ap Y V)<|A2 7 V (AB (off:=0) fR V rfl eC Y)<|A2 8 V (Ap Y V)<|A2 9 V (AB (off:=0) fR V rfl eC Y)<|A2 10 V (AB (off:=3) Kx V rfl Hx Y)<|Zz (l:=[11])<|B1 [] [] V rfl (Zs Hx Y Y V) ?_ (fun _ _ h=>h.elim) Ai;rintro _ _ ⟨rfl,rfl⟩;refine B6<|A2 12 V (Ap Y V)<|A2 13 V (AB (off:=0) fR V rfl eC Y)<|A2 14 V (AB (off:=4) Kx V rfl Hx Y)<|Zz (l:=[15])<|B1 [] [] V rfl (Zs Hx Y Y V) ?_ (fun _ _ h=>h.elim) Ai;rintro _ _ ⟨rfl,rfl⟩;refine B6<|Ag<|Cw V results68 (by exact ⟨V,V⟩)
theorem Y6(z:Bl)(G:z.bl.Nodup)(B:e∈z.E){p n:Nat}(I:p∈z.bl)(hn:n∈z.bl)(g:z.bf e.b=pV p)(m:z.nx e.b=pV n):Ba prog 118 #[.pointer (some ⟨e.b,0,none⟩)] [z.S] (fun v H'=>v=undef/\H'=[({z with nx:=DY z.nx p (pV n),bf:=DY z.bf n (pV p)}:Bl).S]):=by
 obtain ⟨Z,W,J,s1,O⟩:=z.upd G I;obtain ⟨c2,X,K,s2,U⟩:=Bl.upd ({z with nx:=DY z.nx p (pV n)}:Bl) G hn;refine Se func118 ntmps118 [0] ?_;intro u R;refine Az (n:=22) (0::1::3::7::0::16::48::112::0::256::768::1792::0::4096::12288::28672::65535::131071::262143::524287::1048575::2097151::[]) 2359296 A6 A6 V<|A2 0 V (AP Y)<|A2 1 V (Ap Y V)<|A2 2 V (AB (off:=3) Kx V rfl Hx Y)<|CQ (D':=15) 3 V rfl V (Ee Wo (z.node B)) (BP isAgg153 Y (congrArg some g)) ?_;refine A2 4 V (AP Y)<|A2 5 V (Ap Y V)<|A2 6 V (AB (off:=4) Kx V rfl Hx Y)<|CQ (D':=255) 7 V rfl V (Ee Wo (z.node B)) (BP isAgg153 Y (congrArg some m)) ?_;refine A2 8 V (AP Y)<|A2 9 V (Ap Y V)<|A2 10 V (AB (off:=4) Kx V rfl Hx Y)<|CQ (D':=4095) 11 V rfl V (Ee Wo (z.node B)) (BP isAgg153 Y (congrArg some m)) ?_;refine A2 12 V (AP Y)<|A2 13 V (Ap Y V)<|A2 14 V (AB (off:=3) Kx V rfl Hx Y)<|CQ (D':=65535) 15 V rfl V (Ee Wo (z.node B)) (BP isAgg153 Y (congrArg some g)) ?_;refine A2 16 V (Ap Y V)<|A2 17 V (AB (off:=4) Kx V rfl Hx Y)<|Zz (l:=[18])<|B1 [false,false,false,false] [] V rfl (Gn Hx Y Y V Wo (J) (by exact (O _).1) A1 (by exact BB _)) ?_ (fun _ _ h=>h.elim) Ai;rintro _ _ ⟨rfl,rfl⟩;refine B6<|A2 19 V (Ap Y V)<|A2 20 V (AB (off:=3) Kx V rfl Hx Y)<|Zz (l:=[21])<|B1 [] [] V rfl (Gn Hx Y Y V Wo (K) (by exact (U _).2) A1 (by exact BB _)) ?_ (fun _ _ h=>h.elim) Ai;rintro _ _ ⟨rfl,rfl⟩;refine B6<|Ag<|Cw V results118 (by exact ⟨V,V⟩)
variable{v:Value}{k:Nat}
theorem Wy{e:TypeId}{xs:List Value}{s:List AA}(h:Row e v xs s){y0:Value}(hy:xs[k]?=some y0):∃b cap cur z,v=I6 b xs.length cap/\s=[(b,.cells cur e z)]/\k<cur.size/\Ih z cur.size/\cur[k]?=some y0/\∀y:Value,Row e v (xs.set k y) [(b,.cells (cur.setIfInBounds k y) e z)]:=by
 have I:=(BE.1 hy).1;obtain ⟨b,cap,cur,z,hv,J,K,h2,O⟩:=wO h I;refine ⟨b,cap,cur,z,hv,J,K,h2,?_,O⟩;obtain ⟨W,B,G,X,U,g,_,_,_,m,_⟩:=h.some A1;rw [J]at g;injection g with g _
 injection g with _ g
 injection g with g _
 subst g;rw [<-HH,<-ke I,m];exact hy
def FX(L:List Bt)(k:Int):Int:=(L.map fun e=>if e.te=k then e.sz else 0).sum
def LK(L:List Bt):Int:=(L.map (·.sz)).sum
structure Dn(z:Bl)(ns:Nat)(L:List Bt)(mb:Nat)(es:Array MapEntry)(ck:Nat)(lm:List (ByteArray×Value))(su:List AA):Prop where
 sub:∀e∈L,e∈z.E
 ring:JQ z.nx z.bf z.r (L.map (·.b))
 mv:z.mv= .map (some mb)
 map:Co (fun k:ByteArray=>Value.string k) es ck lm
 mem:∀p,p∈lm↔∃e∈L,p=(e.key,pV e.b)
 keys:(L.map (·.key)).Nodup
 used:Row 3 z.us ((List.range ns).map fun k:Nat=>Value.int .i64 (FX L (k:Int))) su
 te:∀e∈L,0<=e.te/\e.te<(ns:Int)
 sz:∀e∈L,1<=e.sz
 free:z.fr=z.cap -LK L
 room:0<=z.fr
 sh:∃a c,z.sh= .slice a ns c
 cap:1<=z.cap/\z.cap<=1000000
theorem Rj(A B:List Bt)(k:Int):FX (A++B) k=FX A k+FX B k:=by unfold FX;rw [BW,ov]
theorem Pf(e:Bt)(L:List Bt)(k:Int):FX (e::L) k=(if e.te=k then e.sz else 0)+FX L k:=by unfold FX;rw [DQ,iv]
theorem LX(A B:List Bt):LK (A++B)=LK A+LK B:=by unfold LK;rw [BW,ov]
theorem Jz(e:Bt)(L:List Bt):LK (e::L)=e.sz+LK L:=by unfold LK;rw [DQ,iv]
theorem NZ:∀{L:List Bt},(∀e∈L,1<=e.sz)->∀k,0<=FX L k/\FX L k<=LK L
 |[],_,k=>by unfold FX LK;simp
 |e::L,h,k=>by
  have g:=NZ (fun x hx=>h x (EV _ hx)) k;have h2:=h e (E4 ..)
  rw [Pf,Jz];split<;>omega
variable{ns:Nat}
theorem VL(f g:Nat->Value)(B:k<ns)(hv:g k=v)(m:∀i,i<ns->i≠k->g i=f i):((List.range ns).map f).set k v=(List.range ns).map g:=by
 apply MT;intro i;rw [Sf,B4,cG,DO,DO];by_cases hi:i<ns
 · rw [Z1 hi]
   by_cases e:k=i
   · subst e;rw [AM rfl,AM hi,<-hv];rfl
   · rw [AK e];exact congrArg some (m i hi (da e)).symm
 · rw [AK (by omega:¬k=i),Lz Hh];rfl
variable{z:Bl}{L:List Bt}{mb ck:Nat}{es:Array MapEntry}{lm:List (ByteArray×Value)}{su:List AA}
theorem Dn.nodup(h:Dn z ns L mb es ck lm su)(B:z.bl.Nodup):(z.r::L.map (·.b)).Nodup:=by
 have g:(z.r::z.E.map (·.b)).Nodup:=B;rw [Hj]at g⊢;refine ⟨fun J=>?_,?_⟩
 · obtain ⟨e,G,m⟩:=Bm.1 J
   exact g.1 (m▸DP (h.sub e G))
 · have I:=Th.1 h.keys
   refine Th.2 (I.imp_of_mem fun{a b} ha m hne e=>hne ?_);rw [GI g.2 (h.sub a ha) (h.sub b m) e]
theorem Dn.use(h:Dn z ns L mb es ck lm su)(k:Int):0<=FX L k/\FX L k<=1000000:=by
 have g:=NZ h.sz k;have h2:=h.free;have m:=h.room;have B:=h.cap
 omega
theorem Dn.size(h:Dn z ns L mb es ck lm su)(g:e∈L):1<=e.sz/\e.sz<=1000000:=by
 obtain ⟨A,B,rfl⟩:=cF g;have m:=LX A (e::B)
 rw [Jz]at m;have K:=(NZ (fun x hx=>h.sz x (Dg _ hx):∀x∈A,1<=x.sz) 0)
 have O:=(NZ (fun x hx=>h.sz x (G2 _ (EV _ hx)):∀x∈B,1<=x.sz) 0);have h2:=h.free;have G:=h.room;have I:=h.cap;have J:=h.sz e g
 omega
theorem Dn.get(h:Dn z ns L mb es ck lm su)(g:e∈L):EI e.key lm=some (pV e.b):=Cy h.map.keys ((h.mem _).2 ⟨e,g,rfl⟩)
theorem Dn.none{z:Bl}{ns:Nat}{L:List Bt}{mb:Nat}{es:Array MapEntry}{ck:Nat}{lm:List (ByteArray×Value)}{su:List AA}(h:Dn z ns L mb es ck lm su){K:ByteArray}(g:∀e∈L,e.key≠K):EI K lm=none:=DW fun p B=>by
 obtain ⟨e,m,rfl⟩:=(h.mem p).1 B;exact g e m
variable{L2 L1:List Bt}
theorem dV(h:Dn z ns (L1++e::L2) mb es ck lm su)(hr:JQ nx bf z.r ((L1++L2).map (·.b))){I:Array MapEntry}{G:Nat}{B:List (ByteArray×Value)}
 (hm:Co (fun k:ByteArray=>Value.string k) I G B)(hp:∀p,p∈B↔p∈lm/\p.1≠e.key)(hk:e.te=(k:Int)){K:List AA}(W:Row 3 z.us (((List.range ns).map fun i:Nat=>Value.int .i64 (FX (L1++e::L2) (i:Int))).set k (I4 (FX (L1++e::L2) (k:Int)+(-1)*e.sz))) K):
 Dn {z with nx:=nx,bf:=bf,fr:=z.fr -(-1)*e.sz} ns (L1++L2) mb I G B K:=by
 have m:∀x∈L1++L2,x∈L1++e::L2:=fun x hx=>by
  rcases B9.1 hx with hx|hx
  · exact Dg _ hx
  · exact G2 _ (EV _ hx)
 have O:k<ns:=by have:=(h.te e B0).2;omega
 have J:∀i:Int,FX (L1++e::L2) i=FX (L1++L2) i+if e.te=i then e.sz else 0:=fun i=>by
  rw [Rj,Pf,Rj];omega
 have g:=h.keys;rw [BW,DQ,H3,Hj]at g;have U:∀x∈L1++L2,x.key≠e.key:=fun x hx=>by
  rcases B9.1 hx with hx|hx
  · exact g.2.2 _ (DP hx) _ (E4 ..)
  · exact fun hh=>g.2.1.1 (hh▸DP hx)
 have h1:=h.sz e B0;have h2:=h.room
 have X:=h.free;rw [LX,Jz]at X;refine ⟨fun x hx=>h.sub x (m x hx),hr,h.mv,hm,fun p=>?_,?_,?_,fun x hx=>h.te x (m x hx),fun x hx=>h.sz x (m x hx),?_,?_,h.sh,h.cap⟩
 · rw [hp,h.mem]
   constructor
   · rintro ⟨⟨x,hx,rfl⟩,hn⟩
     rcases B9.1 hx with hx|hx
     · exact ⟨x,Dg _ hx,rfl⟩
     · rcases D4.1 hx with rfl|hx
       · exact absurd rfl hn
       · exact ⟨x,G2 _ hx,rfl⟩
   · rintro ⟨x,hx,rfl⟩
     exact ⟨⟨x,m x hx,V⟩,U x hx⟩
 · rw [BW,H3]
   exact ⟨g.1,g.2.1.2,fun a Z b hb=>g.2.2 a Z b (EV _ hb)⟩
 · rw [VL (v:=I4 (FX (L1++e::L2) (k:Int)+(-1)*e.sz)) (fun i:Nat=>Value.int .i64 (FX (L1++e::L2) (i:Int))) (fun i:Nat=>Value.int .i64 (FX (L1++L2) (i:Int))) O (by show Value.int .i64 _=Value.int .i64 _;rw [J,AM hk];congr 1;omega) (fun i _ hi=>by
    show Value.int .i64 _=Value.int .i64 _;rw [J,AK A1];congr 1;omega)]at W
   exact W
 · show z.fr -(-1)*e.sz=z.cap -_
   rw [LX];omega
 · show 0<=z.fr -(-1)*e.sz
   omega
theorem Sk(h:Dn z ns L mb es ck lm su)(hr:JQ nx bf z.r ((L++[e]).map (·.b))){G:Array MapEntry}{B:Nat}{m:List (ByteArray×Value)}
 (O:∀x∈L,x.key≠e.key)(hm:Co (fun k:ByteArray=>Value.string k) G B m)(hp:∀p,p∈m↔p=(e.key,pV e.b)\/(p∈lm/\p.1≠e.key))(hk:e.te=(k:Int))(K:k<ns)(hs:1<=e.sz/\e.sz<=z.fr){J:List AA}(U:Row 3 z.us (((List.range ns).map fun i:Nat=>Value.int .i64 (FX L (i:Int))).set k (I4 (FX L (k:Int)+1*e.sz))) J):
 Dn {z with E:=z.E++[e],nx:=nx,bf:=bf,fr:=z.fr -1*e.sz} ns (L++[e]) mb G B m J:=by
 have I:∀i:Int,FX (L++[e]) i=FX L i+if e.te=i then e.sz else 0:=fun i=>by
  rw [Rj,Pf];unfold FX;simp
 have h3:=h.free;have g:∀{Q:Bt->Prop},(∀x∈L,Q x)->Q e->∀x∈L++[e],Q x:=fun W h2 x hx=>by
  rcases B9.1 hx with hx|hx
  · exact W x hx
  · rw [BT.1 hx];exact h2
 refine ⟨g (fun x hx=>Dg _ (h.sub x hx)) (G2 _ (BT.2 V)),hr,h.mv,hm,fun p=>?_,?_,?_,g h.te ⟨by omega,by omega⟩,g h.sz hs.1,?_,?_,h.sh,h.cap⟩
 · rw [hp,h.mem]
   constructor
   · rintro (rfl|⟨⟨x,hx,rfl⟩,_⟩)
     · exact ⟨e,by simp,rfl⟩
     · exact ⟨x,Dg _ hx,rfl⟩
   · rintro ⟨x,hx,rfl⟩
     rcases B9.1 hx with hx|hx
     · exact .inr ⟨⟨x,hx,rfl⟩,O x hx⟩
     · rw [BT.1 hx];exact .inl rfl
 · rw [BW,H3]
   refine ⟨h.keys,by simp,fun a X b Z=>?_⟩;obtain ⟨x,hx,rfl⟩:=Bm.1 X;obtain rfl:=BT.1 Z;exact O x hx
 · rw [VL (v:=I4 (FX L (k:Int)+1*e.sz)) (fun i:Nat=>Value.int .i64 (FX L (i:Int))) (fun i:Nat=>Value.int .i64 (FX (L++[e]) (i:Int))) K (by show Value.int .i64 _=Value.int .i64 _;rw [I,AM hk];congr 1;omega) (fun i _ hi=>by
    show Value.int .i64 _=Value.int .i64 _;rw [I,AK A1];congr 1;omega)]at U
   exact U
 · show z.fr -1*e.sz=z.cap -_
   rw [LX,Jz];unfold LK at*;simp;omega
 · show 0<=z.fr -1*e.sz
   omega
theorem Qo(z:Bl)(g:z.bl.Nodup)(G:e∈z.E){p:Nat}(I:p∈z.bl)(m:z.bf z.r=pV p):Ba prog 76 #[.pointer (some ⟨e.b,0,none⟩),.pointer (some ⟨z.r,0,none⟩)] [z.S] (fun v H'=>v=undef/\H'=[({z with nx:=DY (DY z.nx e.b (pV z.r)) p (pV e.b),bf:=DY (DY z.bf e.b (pV p)) z.r (pV e.b)}:Bl).S]):=by
 have B:e.b∈z.bl:=EV _ (DP G);obtain ⟨c1,T1,J,s1,W⟩:=z.upd g B;obtain ⟨c2,T2,K,s2,X⟩:=Bl.upd ({z with bf:=DY z.bf e.b (pV p)}:Bl) g B;obtain ⟨c3,T3,O,s3,Z⟩:=Bl.upd ({z with bf:=DY z.bf e.b (pV p),nx:=DY z.nx e.b (pV z.r)}:Bl) g I;obtain ⟨c4,T4,U,s4,u4⟩:=Bl.upd ({z with bf:=DY z.bf e.b (pV p),nx:=DY (DY z.nx e.b (pV z.r)) p (pV e.b)}:Bl) g (E4 ..);refine Se func76 ntmps76 [0,1] ?_;intro u R;refine A0<|Zm Y<|Zm Y<|Zm Y<|Zp Y V<|Zh 3 Kx V rfl Hx Y<|CS (I1 Wo (z.root)) (BP isAgg153 Y (congrArg some m)) V rfl<|Zm Y<|Zp Y V<|Zh 3 Kx V rfl Hx Y<|Xe (Gn Hx Y Y V Wo (J) (by exact (W _).2) A1 (by exact BB _))<|Zp Y V<|Zh 4 Kx V rfl Hx Y<|Xe (Gn Hx Y Y V Wo (K) (by exact (X _).1) A1 (by exact BB _))<|Z0<|Zn [0,1] ?_;refine Zx<|Zg<|Zm Y<|Zp Y V<|Zh 3 Kx V rfl Hx Y<|CS (I1 Wo ((Bl.node ({z with bf:=DY z.bf e.b (pV p),nx:=DY z.nx e.b (pV z.r)}:Bl) G))) (BP isAgg153 Y (by exact congrArg some (IG _ _ _))) V rfl<|Zm Y<|Zm Y<|Zm Y<|Zp Y V<|Zh 4 Kx V rfl Hx Y<|Xe (Gn Hx Y Y V Wo (O) (by exact (Z _).1) A1 (by exact BB _))<|Zp Y V<|Zh 3 Kx V rfl Hx Y<|Xe (Gn Hx Y Y V Wo (U) (by exact (u4 _).2) A1 (by exact BB _))<|Z0<|Cw V results76 (by exact ⟨V,V⟩)
theorem O4(z:Bl)(O:z.bl.Nodup)(G:e∈z.E){sg:Int}(J:sg=1\/sg=-1){xs:List Value}(hu:Row 3 z.us xs su)(W:e.te=(k:Int)){x:Int}(hx:xs[k]?=some (I4 x))(ax:-1000000000<=x/\x<=1000000000)(af:0<=e.sz/\e.sz<=1000000000)(U:-1000000000<=z.fr/\z.fr<=1000000000):Ba prog 77 #[.pointer (some ⟨z.r,0,none⟩),.pointer (some ⟨e.b,0,none⟩),I4 sg] [z.S,su] (fun v H'=>v=undef/\∃B,Row 3 z.us (xs.set k (I4 (x+sg*e.sz))) B/\H'=[({z with fr:=z.fr -sg*e.sz}:Bl).S,B]):=by
 have X:=(BE.1 hx).1;obtain ⟨bu,cu,cur,zu,K,rfl,Z,I,g,m⟩:=Wy hu hx;have hm:-1000000000<=sg*e.sz/\sg*e.sz<=1000000000:=by rcases J with rfl|rfl<;>omega
 refine Se func77 ntmps77 [0,1,2] ?_;intro u R;refine Zq<|Az (n:=19) (0::1::3::7::0::16::48::112::255::511::0::0::2048::6144::14336::31744::65535::131071::262143::[]) 262144 A6 A6 V<|A2 0 V (AP Y)<|A2 1 V (Ap Y V)<|A2 2 V (AB (off:=7) HN V rfl cQ Y)<|CQ (D':=15) 3 V rfl V (Ee Wo (z.root)) (BP ar Y (congrArg some K)) ?_;refine A2 4 V (AP Y)<|A2 5 V (Ap Y V)<|A2 6 V (AB (off:=1) Kx V rfl A4 Y)<|CQ (D':=255) 7 V rfl V (Ee Wo (z.node G)) (BP AD Y (by exact congrArg (fun t=>some (Value.int .i64 t)) W)) ?_;refine A2 8 rfl (BV Cl A4 Y Y (by first|omega|(rw [SO];omega)))<|B2 9 rfl AD Y (hv:=by exact g) ?_;refine A2 10 V (AP Y)<|A2 11 V (AP Y)<|A2 12 V (Ap Y V)<|A2 13 V (AB (off:=2) Kx V rfl A4 Y)<|CQ (D':=32767) 14 V rfl V (Ee Wo (z.node G)) (BP AD Y AN) ?_
 (refine Dr (D':=65535) 15 (qi Y Y (IntWalk.i64_in _ ?_)) ?_;(focus (omega)))
 (refine Dr (D':=131071) 16 (He Y Y (IntWalk.i64_in _ ?_)) ?_;(focus (omega)))
 refine A2 17 rfl (BV Cl A4 Y Y (by first|omega|(rw [SO];omega)))<|Yw 18 524287 rfl (Zs A4 Y Y rfl (hi:=by omega) (hz:=by exact I))<|CT<|Ag<|Zn [0,1,2] ?_;refine Zx<|Az (n:=14) (0::1::3::7::0::0::32::96::224::496::1023::2047::4095::8191::[]) 8192 A6 A6 V<|A2 0 V (AP Y)<|A2 1 V (Ap Y V)<|A2 2 V (AB (off:=9) HN V rfl A4 Y)<|CQ (D':=15) 3 V rfl V (Ee Wo (z.root)) (BP AD Y AN) ?_;refine A2 4 V (AP Y)<|A2 5 V (AP Y)<|A2 6 V (Ap Y V)<|A2 7 V (AB (off:=2) Kx V rfl A4 Y)<|CQ (D':=511) 8 V rfl V (Ee Wo (z.node G)) (BP AD Y AN) ?_
 (refine Dr (D':=1023) 9 (qi Y Y (IntWalk.i64_in _ ?_)) ?_;(focus (omega)))
 (refine Dr (D':=2047) 10 (GL Y Y (IntWalk.i64_in _ ?_)) ?_;(focus (omega)))
 refine A2 11 V (Ap Y V)<|A2 12 V (AB (off:=9) HN V rfl A4 Y)<|Zz (l:=[13])<|B1 [false,false] [] V rfl (Gn A4 Y Y V Wo (z.root) (by exact z.fr_upd O _) Wn (by exact BB _)) ?_ (fun _ _ h=>h.elim) Ai;rintro _ _ ⟨rfl,rfl⟩;refine B6<|Ag<|Cw V results77 (by exact ⟨V,_,m _,V⟩)
theorem nD(z:Bl)(m:z.mv= .map (some mb))(B:Co (fun k:ByteArray=>Value.string k) es ck lm)(K:ByteArray):BH prog 145 #[.pointer (some ⟨z.r,0,none⟩),.string K] [z.S,[(mb,.map es ck)]] (.tuple #[(EI K lm).getD (.pointer none),.bool (EI K lm).isSome]):=by
 refine Se func145 ntmps145 [0,1] ?_;intro u R;refine A0<|Za Y<|A3 Y<|Zq<|A0<|Zm Y<|Zv (Be mm Y Y)<|A5<|AX Y (fun g=>by cases g)<|fun g=>AC<|Zx<|A0<|Zm Y<|Zp Y V<|Zh 8 HN V rfl eE Y<|CS (I1 Wo (z.root)) (BP isAgg152 Y (congrArg some m)) V rfl<|Zm Y<|Zo Wh (EB (Dk GP (D:=fun _=>True)) fS kA B (fun _ _=>trivial) (trivial) (⟨V,V⟩) Y Y)<|Zm Y<|Zd Y V<|Zd Y V<|Za Y<|AG Y<|Zn [6,7] ?_;refine Zx<|A0<|Zm Y<|Zm Y<|Za Y<|A3 Y<|AJ<|Cv V results145 Y Y (by exact ⟨V,V⟩)
theorem Ux(g:Dn z ns (L1++e::L2) mb es ck lm su)(Z:z.bl.Nodup):Ba prog 72 #[.pointer (some ⟨z.r,0,none⟩),.pointer (some ⟨e.b,0,none⟩)] [z.S,[(mb,.map es ck)],su] (fun v H'=>v=undef/\∃K G B d9 J,K.r=z.r/\K.cap=z.cap/\K.E=z.E/\Dn K ns (L1++L2) mb G B d9 J/\H'=[K.S,[(mb,.map G B)],J]):=by
 have he:e∈z.E:=g.sub e B0;have bg:=g.nodup Z
 obtain ⟨p,n,hp,hn,X,bn,m⟩:=qA (l1:=L1.map (·.b)) (l2:=L2.map (·.b)) (x:=e.b) (by simpa using bg) (by simpa using g.ring);have I:∀q,q∈z.r::(L1.map (·.b)++L2.map (·.b))->q∈z.bl:=fun q O=>by
  rcases D4.1 O with rfl|O
  · exact E4 ..
  · rw [<-BW]at O
    obtain ⟨x,hx,rfl⟩:=Bm.1 O;exact EV _ (DP (g.sub x (by rcases B9.1 hx with h|h<;>simp [h])))
 rw [<-BW]at m;have gF:=g.te e B0
 obtain ⟨k,hk⟩:∃k:Nat,e.te=(k:Int):=⟨e.te.toNat,by omega⟩;have af:k<ns:=by omega
 have ic:=g.use (k:Int);have gB:=g.size (e:=e) B0
 have gq:=g.room;have gy:z.fr<=1000000:=by
  have h1:=g.free;have h2:=g.cap;have h3:=NZ g.sz 0
  omega
 refine Se func72 ntmps72 [0,1] ?_;intro u R;refine A0<|Zm Y<|Zc [_] Y call118 Y V (Y6 z Z he (I p hp) (I n hn) X bn) ?_;rintro _ _ ⟨_,⟨rfl,rfl⟩,rfl⟩;refine A5<|Zq<|Az (n:=9) (0::1::3::7::0::16::48::112::255::[]) 256 A6 A6 V<|A2 0 V (AP Y)<|A2 1 V (Ap Y V)<|A2 2 V (AB (off:=8) HN V rfl eE Y)<|CQ (D':=15) 3 V rfl V (Ee Wo ((Bl.root ({z with nx:=DY z.nx p (pV n),bf:=DY z.bf n (pV p)}:Bl)))) (BP isAgg152 Y (congrArg some g.mv)) ?_;refine A2 4 V (AP Y)<|A2 5 V (Ap Y V)<|A2 6 V (AB (off:=0) Kx V rfl Fi Y)<|CQ (D':=255) 7 V rfl V (Ee Wo ((Bl.node ({z with nx:=DY z.nx p (pV n),bf:=DY z.bf n (pV p)}:Bl) he))) (BP HQ Y AN) ?_;refine Yw 8 511 V (LV (Dk GP (D:=fun _=>True)) fS g.map (fun _ _=>trivial) (trivial) Y Y Wo) ?_;rintro _ _ ⟨rfl,W,U,ek,ax,cu,rfl⟩;refine Ag<|Zx<|Zg<|Zm Y<|Zm Y<|Zc [_,_,_] Y call77 Y rfl (O4 ({z with nx:=DY z.nx p (pV n),bf:=DY z.bf n (pV p)}:Bl) Z he (.inr rfl) g.used hk (k:=k) (x:=FX (L1++e::L2) (k:Int)) (by rw [DO,Z1 af];rfl) A1 A1 (by show _<=z.fr/\z.fr<=_;omega)) ?_;rintro _ _ ⟨_,⟨rfl,gm,cO,rfl⟩,rfl⟩;refine Z0<|Cw V results72 (by exact ⟨V,({z with nx:=DY z.nx p (pV n),bf:=DY z.bf n (pV p),fr:=z.fr -(-1)*e.sz}:Bl),W,U,ek,gm,V,V,V,dV g m ax cu hk cO,V⟩)
theorem kP(B:Dn z ns (L1++e::L2) mb es ck lm su)(Z:z.bl.Nodup):Ba prog 93 #[.pointer (some ⟨z.r,0,none⟩),.string e.key] [z.S,[(mb,.map es ck)],su] (fun v H'=>v= .bool true/\∃J m g I G,J.r=z.r/\J.cap=z.cap/\J.E=z.E/\Dn J ns (L1++L2) mb m g I G/\H'=[J.S,[(mb,.map m g)],G]):=by
 have hg:=B.get (e:=e) B0;refine Se func93 ntmps93 [0,1] ?_;intro u R;refine A0<|A3 Y<|A0<|Zm Y<|Zm Y<|Xr [_,_] Y call145 Y V (nD z B.mv B.map e.key) ?_;rw [hg,ia];refine Zm Y<|Zd Y V<|Zd Y V<|Za Y<|A3 Y<|Zq<|A0<|Zm Y<|A5<|AX Y (fun K=>?_) (fun K=>?_);·
  refine Zg<|Zm Y<|Zm Y<|Zc [_,_] Y call72 Y V (Ux B Z) ?_;rintro _ _ ⟨_,⟨rfl,J,m,g,I,G,X,W,U,O,rfl⟩,rfl⟩;refine Z0<|Zn [6] ?_;refine Zx<|A0<|Zm Y<|A3 Y<|AJ<|AO V results93 Y (by exact ⟨V,J,m,g,I,G,X,W,U,O,V⟩)
 cases K
theorem wD(B:Dn z ns (L) mb es ck lm su)(hd:z.bl.Nodup)(U:k<ns):BH prog 56 #[.pointer (some ⟨z.r,0,none⟩),I4 (k:Int)] [z.S,[(mb,.map es ck)],su] (I4 (FX L (k:Int))):=by
 obtain ⟨X,Z,cur,zu,g,rfl,W,O,m,I⟩:=Wy B.used (k:=k) (by rw [DO,Z1 U];rfl);rw [B4,cG]at g;refine Se func56 ntmps56 [0,1] ?_;intro u R;refine A0<|A3 Y<|Zq<|A0<|Zm Y<|Zv (Be mm Y Y)<|Zm Y<|Af (t:=7) Y V (fun G=>by cases G)<|fun G=>Zf Y Y<|Yg (Au (n:=0) Y Y)<|Zv (AL Y Y)<|Zm Y<|Aj (t:=11) Y V (fun K=>by omega)<|fun K=>Zf Y Y<|Zf Y Y<|Yg (Ap Y V)<|Yf 7 HN V rfl cQ Y<|Lu Y (I1 Wo (z.root)) (BP ar Y (congrArg some g)) V rfl ?_;refine Yg (AY Cl Y)<|Yg (G6 Y Y)<|Zv (AL Y Y)<|Z0<|Zn [0,1,19] ?_;refine Zx<|Aq Y (fun J=>by omega)<|fun J=>AC<|Zx<|A0<|Zm Y<|Zp Y V<|Zh 7 HN V rfl cQ Y<|CS (I1 Wo (z.root)) (BP ar Y (congrArg some g)) V rfl<|Zm Y<|Bb (BV Cl A4 Y Y A1)<|Zl AD Y (hv:=by exact m)<|A3 Y<|AJ<|AO V results56 Y (by exact ⟨V,V⟩)
theorem dJ{nx' bf':Nat->Value}(h:JQ nx bf r l)(B:∀a∈r::l,nx' a=nx a)(h2:∀a∈r::l,bf' a=bf a):JQ nx' bf' r l:=fun q m=>by
 have e1:q.1∈r::l:=by rw [<-JB r l r];exact DP m
 have e2:q.2∈r::l:=by
  have g:q.2∈l++[r]:=by rw [<-KC r l r];exact DP m
  rcases B9.1 g with g|g
  · exact EV _ g
  · rw [BT.1 g];exact E4 ..
 rw [B _ e1,h2 _ e2];exact h q m
def Bl.more(z:Bl)(e:Bt):Bl:={z with E:=z.E++[e],nx:=DY z.nx e.b (.pointer none),bf:=DY z.bf e.b (.pointer none)}
theorem Bl.more_S(z:Bl)(e:Bt)(g:e.b∉z.S.map (·.1)):z.S++[(e.b,.cells #[.string e.key,I4 e.te,I4 e.sz,.pointer none,.pointer none] 155 (0,0))]=(z.more e).S:=by
 rw [z.keys]at g;have B:z.r≠e.b:=fun h=>g (h▸E4 ..)
 unfold Bl.more Bl.S;simp only [Ed _ _ B,BW,DQ,J1,PJ];congr 2
 · refine Vc fun x hx=>?_
   have m:x.b≠e.b:=fun h=>g (h▸EV _ (DP hx));unfold Bt.ch;simp only [Ed _ _ m]
 · unfold Bt.ch
   simp only [IG]
theorem YZ(h:Dn z ns L mb es ck lm su)(O:z.bl.Nodup)(e:Bt)(G:e.b∉z.S.map (·.1)):∃p,p∈(z.more e).bl/\(z.more e).bf z.r=pV p/\e∈(z.more e).E/\
 JQ (DY (DY (z.more e).nx e.b (pV z.r)) p (pV e.b)) (DY (DY (z.more e).bf e.b (pV p)) z.r (pV e.b)) z.r ((L++[e]).map (·.b)):=by
 rw [z.keys]at G;have m:∀a∈z.r::L.map (·.b),a∈z.bl:=fun a g=>by
  rcases D4.1 g with rfl|g
  · exact E4 ..
  · obtain ⟨x,hx,rfl⟩:=Bm.1 g
    exact EV _ (DP (h.sub x hx))
 have B:∀a∈z.r::L.map (·.b),a≠e.b:=fun a g U=>G (U▸m a g);obtain ⟨p,I,h2,J⟩:=qB (x:=e.b) (h.nodup O) (fun hx=>G (m _ hx)) (dJ (nx':=(z.more e).nx) (bf':=(z.more e).bf) h.ring (fun a g=>Ed _ _ (B a g)) (fun a g=>Ed _ _ (B a g)));refine ⟨p,?_,h2,G2 _ (BT.2 rfl),by rw [BW];exact J⟩;have K:=m p I
 unfold Bl.bl Bl.more at*;rcases D4.1 K with h5|h5
 · rw [h5];exact E4 ..
 · refine EV _ ?_
   show p∈(z.E++[e]).map (·.b);rw [BW];exact Dg _ h5
theorem Y8{l:List Int}{i:Nat}{x:Int}(h:l[i]?=some x):(l.take (i+1)).sum=(l.take i).sum+x:=by
 obtain ⟨hi,rfl⟩:=BE.1 h;rw [PF,B3 hi,ov];simp
theorem OP:∀{l:List Int},(∀x∈l,0<=x)->∀i,0<=(l.take i).sum/\(l.take i).sum<=l.sum
 |[],_,i=>by simp
 |x::l,h,0=>by
  have:=OP (fun y hy=>h y (EV _ hy)) l.length;rw [GB]at this;have hx:=h x (E4 ..)
  simp only [ID,List.sum_nil,iv];omega
 |x::l,h,i+1=>by
  have:=OP (fun y hy=>h y (EV _ hy)) i;have hx:=h x (E4 ..)
  simp only [kn,iv];omega
theorem dU(r:Nat)(cap:Int)(hc:1<=cap/\cap<=1000000)(a:Option Addr)(ns c mb g:Nat)(hn:ns<=maxLen):Dn ⟨r,[],fun _=>pV r,fun _=>pV r,cap,.slice a ns c,I6 g ns ns,.map (some mb),cap⟩ ns [] mb #[] 0 [] [(g,.cells (List.replicate ns (Value.int .i64 0)).toArray 3 (0,0))]:=by
 refine ⟨fun e h=>by simp at h,q8 V rfl,V,EU _,fun p=>by simp,lr,?_,fun e h=>by simp at h,fun e h=>by simp at h,?_,?_,⟨a,c,V⟩,hc⟩
 · rw [show(List.range ns).map (fun k:Nat=>Value.int .i64 (FX [] (k:Int)))=List.replicate ns (Value.int .i64 0) from by
    rw [List.eq_replicate_iff];refine ⟨by simp,fun b m=>?_⟩;obtain ⟨k,_,rfl⟩:=Bm.1 m;rfl]
   exact Jb _ g _ ns B0 hn
 · show cap=cap -LK []
   unfold LK;simp
 · show 0<=cap
   omega
theorem GQ{xs:List Int}{s:List AA}(J:Row 3 v (xs.map (Value.int .i64)) s)(hn:xs.length<=1000000):Ba prog 67 #[v] [s] (fun r H'=>∃g c s2,r= .slice g xs.length c/\Row 3 r (xs.map (Value.int .i64)) s2/\H'=[s2,s]):=by
 have Z:=mL;obtain ⟨W,cv,hv⟩:=J.form;rw [B4]at hv;subst hv;refine Se func67 ntmps67 [0] ?_;intro u R;refine A0<|A3 Y<|Zq<|A0<|Zm Y<|Zv (Dq Cl Y Y)<|A5<|AX Y (fun U=>?_) (fun U=>?_);·
  have K:W=none:=by cases W with
   |none=>rfl
   |some x=>cases U
  subst K;have h0:xs=[]:=by
   rcases J with⟨_,h,_⟩|⟨g,cap,cur,z,h,_⟩
   · simpa using h
   · cases h
  subst h0;refine Zq<|BU<|Zg<|A3 Y<|AJ<|Zt<|AO V results67 Y (by exact ⟨none,0,[],V,Fz _,V⟩)
 refine AC<|Zx<|A0<|Ze (EP Cl A4)<|AE fun X=>Zm Y<|Ze (Gp (by_:=8) Cl (rfl:Tryz.prog.info? 3=some Tryz.t3) rfl rfl rfl rfl Y ((Jb 3 X [] 0 rfl AH)) Y (J) Wo Wo (by exact fun u hu=>by obtain ⟨x,_,rfl⟩:=Bm.1 hu;rfl) Hh Hh) ?_;rintro _ _ ⟨O,m,rfl⟩;rw [LN]at m;have B:=m
 obtain ⟨I,G,rfl⟩:=m.form;refine A3 Y<|AJ<|AO V results67 Y (by exact ⟨I,G,O,by simp,B,V⟩)
theorem lS{sh:List Int}{U:List AA}(G:Row 3 v (sh.map (Value.int .i64)) U)(cap:Int)(hc:1<=cap/\cap<=1000000)(hl:1<=sh.length/\sh.length<=8)(h0:∀x∈sh,0<=x)(W:sh.sum<=cap):Ba prog 30 #[I4 cap,v] [U] (fun r H'=>∃z mb su,r= .tuple #[.pointer (some ⟨z.r,0,none⟩),I4 0]/\z.cap=cap/\Dn z sh.length [] mb #[] 0 [] su/\H'=[z.S,[(mb,.map #[] 0)],su,U]):=by
 have bg:=mL;obtain ⟨pv,cv,hv⟩:=G.form;rw [B4]at hv;subst hv;refine Se func30 ntmps30 [0,1] ?_;intro u R;refine A0<|Za Y<|A3 Y<|Zq<|A0<|Zm Y<|Zv (Dv Y Y)<|Zm Y<|Aj (t:=12) Y V (fun X=>by omega)<|fun X=>Zf Y Y<|Yg (Ev Y Y)<|Zv (AL Y Y)<|Zm Y<|Aj (t:=16) Y V (fun Z=>by omega)<|fun Z=>Zf Y Y<|Yg (AY Cl Y)<|Yg (Au (n:=1) Y Y)<|Zv (AL Y Y)<|Zm Y<|Aj (t:=21) Y V (fun g3=>by omega)<|fun g3=>Zf Y Y<|Yg (AY Cl Y)<|Yg (DF (n:=8) Y Y)<|Zv (AL Y Y)<|Z0<|Zn [0,1,25] ?_;refine Zx<|Aq Y (fun g4=>by omega)<|fun g4=>AC<|Zx<|A0<|Zm Y<|A3 Y<|Zq<|A0<|Zm Y<|Zv (AY Cl Y)<|Zm Y<|A5<|AR<|Zb [6,29,0,1,27,28] ?_;refine BA (e0:=[(6,_),(29,_)]) (fun m e H=>∃(i:Nat),m=sh.length -i/\(i<=sh.length)/\e=[(6,I4 (cap -(sh.take i).sum)),(29,I4 (i:Int))]/\H=[]) (by exact ⟨0,V,C0 _,by simp,V⟩) Wp ?_;rintro _ _ _ ⟨i,rfl,hi,rfl,rfl⟩;refine A0<|Zv (Au Y Y)<|A5<|Zq<|Aq Y (fun J=>?_) (fun J=>?_);·
  obtain ⟨n,hn⟩:∃n,sh[i]?=some n:=⟨_,B3 J⟩;obtain ⟨bs,cs,cur,zs,O,rfl,ax,af,I,_⟩:=Wy G (k:=i) (y0:=I4 n) (by rw [DO,hn];rfl);injection O with e1 e2 e3
  subst e1 e3;have bn:=h0 n (DE hn)
  have cu:=OP h0 i;have K:=OP h0 (i+1)
  rw [Y8 hn]at K;refine AC<|Zx<|Zq<|AR<|A0<|Bb (BV Cl A4 Y Y A1)<|Zl AD Y (hv:=by exact I) ?_;refine A3 Y<|Zq<|A0<|Zm Y<|Zv (Dv Y Y)<|Zm Y<|Aj (t:=35) Y V (fun g5=>by omega)<|fun g5=>Zf Y Y<|Zf Y Y<|Yg (Ev Y Y)<|Zv (AL Y Y)<|A5<|Aq Y (fun g6=>by omega)<|fun g6=>AC<|Zx<|Zg<|Zm Y<|Zm Y ?_
  (refine Bb (GL Y Y (IntWalk.i64_in _ ?_)) ?_;(focus (omega)))
  refine AG Y<|Zn [0,1,6,27,28,29] ?_;refine A8<|Zx<|Zg<|Ya (n:=1) Y Y<|Zm Y<|Z0<|Zn [6,29,0,1,27,28] ?_;refine Ab (e':=[(6,_),(29,_)]) (by exact ⟨i+1,rfl,by omega,by rw [Y8 hn,Int.sub_sub],rfl⟩)
 refine Ay<|Zt<|Zt<|AU<|Zx<|Zb [0,1] ?_;refine DJ (e0:=[(0,_),(1,_)]) (H0:=[]) (fun e H=>∃(r mb g:Nat) (gc:Option Addr) (cc:Nat),(True)/\e=[(9,I5 r)]/\H=[[(r,.cells #[.string ⟨#[]⟩,I4 0,I4 0,.pointer none,.pointer none,I4 cap,.slice gc sh.length cc,I6 g sh.length sh.length,.map (some mb),I4 cap] 159 (0,0))],[(mb,.map #[] 0)],[(g,.cells (List.replicate sh.length (Value.int .i64 0)).toArray 3 (0,0))]]) Wp ?hx_3 ?hy_3
 case hx_3=>
  refine Az (n:=11) (0::0::2::0::8::24::0::0::255::511::1023::[]) 612 A6 A6 V<|A2 0 V (AP Y)<|A2 1 V (AP Y)<|A2 3 V (AP Y)<|A2 4 V (AY Cl Y)<|A2 7 V (AP Y)<|Zz (l:=[2,5,6])<|B1 [] [] V rfl (Zw [_] Y call67 Y V (GQ G A1)) ?_ Bv ?_;·
   rintro _ _ ⟨_,⟨gc,cc,sc,rfl,B,rfl⟩,rfl⟩;refine B6<|Zz (l:=[5,6])<|B1 [] [] V rfl (Gf (by_:=8) Cl (V:Tryz.prog.info? 3=some Tryz.t3) V rfl V rfl Y Y ?_ ?_ ?_) ?hk_5 (fun _ _ h=>h.elim) ?hl_5
   (focus (omega))
   (focus (omega))
   (focus (omega))
   case hk_5=>
    rintro _ _ ⟨g,rfl,rfl⟩;refine B6<|Yw 6 255 V (DT)<|AE fun mb=>A2 8 V (BM (vs:=[(1,I4 cap),(2,.slice gc sh.length cc),(3,I6 g sh.length sh.length),(4,.map (some mb)),(5,I4 cap)]) (cs:=#[.string ⟨#[]⟩,I4 0,I4 0,.pointer none,.pointer none,I4 cap,.slice gc sh.length cc,I6 g sh.length sh.length,.map (some mb),I4 cap]) Y (AZ (pl:=#[(0,5),(5,1),(6,1),(7,1),(8,1),(9,1)]) fh HN (fun _=>by kernel_rfl) A6))<|Yw 9 1023 V (Eu Y (cs:=#[.string ⟨#[]⟩,I4 0,I4 0,.pointer none,.pointer none,I4 cap,.slice gc sh.length cc,I6 g sh.length sh.length,.map (some mb),I4 cap]) A6)<|AE fun r=>A2 10 V (Av Y)<|Ag<|Zn [9] ?_;refine BO (e':=[(9,_)]) (by exact ⟨r,mb,g,gc,cc,trivial,V,V⟩)
   refine B1 [] [] V rfl (DT) ?_ (fun _ _ h=>h.elim) Ai;rintro _ _ ⟨mb,rfl,rfl⟩;refine B6<|Zz (l:=[5])<|B1 [] [] V rfl (Gf (by_:=8) Cl (V:Tryz.prog.info? 3=some Tryz.t3) V rfl V rfl Y Y ?_ ?_ ?_) ?hk_10 (fun _ _ h=>h.elim) ?hl_10
   (focus (omega))
   (focus (omega))
   (focus (omega))
   case hk_10=>
    rintro _ _ ⟨g,rfl,rfl⟩;refine B6<|A2 8 V (BM (vs:=[(1,I4 cap),(2,.slice gc sh.length cc),(3,I6 g sh.length sh.length),(4,.map (some mb)),(5,I4 cap)]) (cs:=#[.string ⟨#[]⟩,I4 0,I4 0,.pointer none,.pointer none,I4 cap,.slice gc sh.length cc,I6 g sh.length sh.length,.map (some mb),I4 cap]) Y (AZ (pl:=#[(0,5),(5,1),(6,1),(7,1),(8,1),(9,1)]) fh HN (fun _=>by kernel_rfl) A6))<|Yw 9 1023 V (Eu Y (cs:=#[.string ⟨#[]⟩,I4 0,I4 0,.pointer none,.pointer none,I4 cap,.slice gc sh.length cc,I6 g sh.length sh.length,.map (some mb),I4 cap]) A6)<|AE fun r=>A2 10 V (Av Y)<|Ag<|Zn [9] ?_;refine BO (e':=[(9,_)]) (by exact ⟨r,mb,g,gc,cc,trivial,V,V⟩)
   exact Ai
  refine B1 [] [] V rfl (Gf (by_:=8) Cl (V:Tryz.prog.info? 3=some Tryz.t3) V rfl V rfl Y Y ?_ ?_ ?_) ?hk_13 (fun _ _ h=>h.elim) ?hl_13
  (focus (omega))
  (focus (omega))
  (focus (omega))
  case hk_13=>
   rintro _ _ ⟨g,rfl,rfl⟩;refine B6<|Zz (l:=[2,6])<|B1 [] [] V rfl (Zw [_] Y call67 Y V (GQ G A1)) ?_ Bv ?_;·
    rintro _ _ ⟨_,⟨gc,cc,sc,rfl,B,rfl⟩,rfl⟩;refine B6<|Yw 6 255 V (DT)<|AE fun mb=>A2 8 V (BM (vs:=[(1,I4 cap),(2,.slice gc sh.length cc),(3,I6 g sh.length sh.length),(4,.map (some mb)),(5,I4 cap)]) (cs:=#[.string ⟨#[]⟩,I4 0,I4 0,.pointer none,.pointer none,I4 cap,.slice gc sh.length cc,I6 g sh.length sh.length,.map (some mb),I4 cap]) Y (AZ (pl:=#[(0,5),(5,1),(6,1),(7,1),(8,1),(9,1)]) fh HN (fun _=>by kernel_rfl) A6))<|Yw 9 1023 V (Eu Y (cs:=#[.string ⟨#[]⟩,I4 0,I4 0,.pointer none,.pointer none,I4 cap,.slice gc sh.length cc,I6 g sh.length sh.length,.map (some mb),I4 cap]) A6)<|AE fun r=>A2 10 V (Av Y)<|Ag<|Zn [9] ?_;refine BO (e':=[(9,_)]) (by exact ⟨r,mb,g,gc,cc,trivial,V,V⟩)
   refine B1 [] [] V rfl (DT) ?_ (fun _ _ h=>h.elim) Ai;rintro _ _ ⟨mb,rfl,rfl⟩;refine B6<|Zz (l:=[2])<|B1 [] [] V rfl (Zw [_] Y call67 Y V (GQ G A1)) ?_ Bv Ai;rintro _ _ ⟨_,⟨gc,cc,sc,rfl,B,rfl⟩,rfl⟩;refine B6<|A2 8 V (BM (vs:=[(1,I4 cap),(2,.slice gc sh.length cc),(3,I6 g sh.length sh.length),(4,.map (some mb)),(5,I4 cap)]) (cs:=#[.string ⟨#[]⟩,I4 0,I4 0,.pointer none,.pointer none,I4 cap,.slice gc sh.length cc,I6 g sh.length sh.length,.map (some mb),I4 cap]) Y (AZ (pl:=#[(0,5),(5,1),(6,1),(7,1),(8,1),(9,1)]) fh HN (fun _=>by kernel_rfl) A6))<|Yw 9 1023 V (Eu Y (cs:=#[.string ⟨#[]⟩,I4 0,I4 0,.pointer none,.pointer none,I4 cap,.slice gc sh.length cc,I6 g sh.length sh.length,.map (some mb),I4 cap]) A6)<|AE fun r=>A2 10 V (Av Y)<|Ag<|Zn [9] ?_;refine BO (e':=[(9,_)]) (by exact ⟨r,mb,g,gc,cc,trivial,V,V⟩)
  refine B1 [] [] V rfl (DT) ?_ (fun _ _ h=>h.elim) Ai;rintro _ _ ⟨mb,rfl,rfl⟩;refine B6<|Zz (l:=[2,5])<|B1 [] [] V rfl (Zw [_] Y call67 Y V (GQ G A1)) ?_ Bv ?_;·
   rintro _ _ ⟨_,⟨gc,cc,sc,rfl,B,rfl⟩,rfl⟩;refine B6<|Zz (l:=[5])<|B1 [] [] V rfl (Gf (by_:=8) Cl (V:Tryz.prog.info? 3=some Tryz.t3) V rfl V rfl Y Y ?_ ?_ ?_) ?hk_24 (fun _ _ h=>h.elim) ?hl_24
   (focus (omega))
   (focus (omega))
   (focus (omega))
   case hk_24=>
    rintro _ _ ⟨g,rfl,rfl⟩;refine B6<|A2 8 V (BM (vs:=[(1,I4 cap),(2,.slice gc sh.length cc),(3,I6 g sh.length sh.length),(4,.map (some mb)),(5,I4 cap)]) (cs:=#[.string ⟨#[]⟩,I4 0,I4 0,.pointer none,.pointer none,I4 cap,.slice gc sh.length cc,I6 g sh.length sh.length,.map (some mb),I4 cap]) Y (AZ (pl:=#[(0,5),(5,1),(6,1),(7,1),(8,1),(9,1)]) fh HN (fun _=>by kernel_rfl) A6))<|Yw 9 1023 V (Eu Y (cs:=#[.string ⟨#[]⟩,I4 0,I4 0,.pointer none,.pointer none,I4 cap,.slice gc sh.length cc,I6 g sh.length sh.length,.map (some mb),I4 cap]) A6)<|AE fun r=>A2 10 V (Av Y)<|Ag<|Zn [9] ?_;refine BO (e':=[(9,_)]) (by exact ⟨r,mb,g,gc,cc,trivial,V,V⟩)
   exact Ai
  refine B1 [] [] V rfl (Gf (by_:=8) Cl (V:Tryz.prog.info? 3=some Tryz.t3) V rfl V rfl Y Y ?_ ?_ ?_) ?hk_27 (fun _ _ h=>h.elim) ?hl_27
  (focus (omega))
  (focus (omega))
  (focus (omega))
  case hk_27=>
   rintro _ _ ⟨g,rfl,rfl⟩;refine B6<|Zz (l:=[2])<|B1 [] [] V rfl (Zw [_] Y call67 Y V (GQ G A1)) ?_ Bv Ai;rintro _ _ ⟨_,⟨gc,cc,sc,rfl,B,rfl⟩,rfl⟩;refine B6<|A2 8 V (BM (vs:=[(1,I4 cap),(2,.slice gc sh.length cc),(3,I6 g sh.length sh.length),(4,.map (some mb)),(5,I4 cap)]) (cs:=#[.string ⟨#[]⟩,I4 0,I4 0,.pointer none,.pointer none,I4 cap,.slice gc sh.length cc,I6 g sh.length sh.length,.map (some mb),I4 cap]) Y (AZ (pl:=#[(0,5),(5,1),(6,1),(7,1),(8,1),(9,1)]) fh HN (fun _=>by kernel_rfl) A6))<|Yw 9 1023 V (Eu Y (cs:=#[.string ⟨#[]⟩,I4 0,I4 0,.pointer none,.pointer none,I4 cap,.slice gc sh.length cc,I6 g sh.length sh.length,.map (some mb),I4 cap]) A6)<|AE fun r=>A2 10 V (Av Y)<|Ag<|Zn [9] ?_;refine BO (e':=[(9,_)]) (by exact ⟨r,mb,g,gc,cc,trivial,V,V⟩)
  exact Ai
 rintro _ _ ⟨r,mb,g,gc,cc,_,rfl,rfl⟩;refine A0<|Zm Y<|Zp Y V<|Zh 0 HN V rfl sizeOf157 Y<|Zc [_] Y call68 Y V (iC r 159 (0,0) _ _ _ _ _ _ _ _ _ _) ?_;rintro _ _ ⟨_,⟨rfl,rfl⟩,rfl⟩;refine A5<|A0<|Zm Y<|Za Y<|A3 Y<|AJ<|Cv V results30 Y Y (by exact ⟨⟨r,[],fun _=>pV r,fun _=>pV r,cap,.slice gc sh.length cc,I6 g sh.length sh.length,.map (some mb),cap⟩,mb,_,V,V,dU r cap hc gc sh.length cc mb g A1,V⟩)
theorem wV(B:Dn z ns L mb es ck lm su)(hd:z.bl.Nodup)(hk:k<ns){sz:Int}(j5:1<=sz)(kv:sz<=z.fr){K:ByteArray}(hK:∀e∈L,e.key≠K):Ba prog 33 #[.pointer (some ⟨z.r,0,none⟩),I4 (k:Int),.string K,I4 sz] [z.S,[(mb,.map es ck)],su] (fun v H'=>v= .tuple #[.slice none 0 0,.bool true]/\∃z' Z X l9 gm b,z'.r=z.r/\z'.cap=z.cap/\Dn z' ns (L++[⟨b,K,(k:Int),sz⟩]) mb Z X l9 gm/\H'=[z'.S,[(mb,.map Z X)],gm]):=by
 obtain ⟨sha,p9,l5⟩:=B.sh;have hg:=B.none hK
 refine DL func33 V ntmps33 V ?_;intro u R;refine Zb [0,1,2,3] ?_;refine A0<|Ze (Bx #[_])<|AE fun bp=>Za Y<|A3 Y<|U9 ?_;refine Zq<|A0<|Zl K1 Y<|Zv (Be mm Y Y)<|Zm Y<|Af (t:=20) Y V (fun gd=>by cases gd)<|fun gd=>Zf Y Y<|Yg (Au (n:=0) Y Y)<|Zv (AL Y Y)<|Zm Y<|Aj (t:=24) Y V (fun g2=>by omega)<|fun g2=>Zf Y Y<|Yl K1 Y<|Yg (Ap Y V)<|Yf 6 HN V rfl cQ Y<|Lu Y (I1 Wo (z.root)) (BP ar Y (congrArg some l5)) V rfl ?_;refine Yg (AY Cl Y)<|Yg (G6 Y Y)<|Zv (AL Y Y)<|Zm Y<|Aj (t:=33) Y V (fun g3=>by omega)<|fun g3=>Zf Y Y<|Yg (Dv Y Y)<|Zv (AL Y Y)<|Z0<|Zn [1,2,3,4,36] ?_;refine Zx<|Aq Y (fun g4=>by omega)<|fun g4=>AC<|Zx<|A0<|A3 Y<|Zb [10,1,2,3,4] ?_;refine DJ (e0:=[(10,_)]) (H0:=[z.S,[(mb,.map es ck)],su]) (fun e H=>∃(z1:Bl) (J:Array MapEntry) (I:Nat) (ek:List (ByteArray×Value)) (W:List AA) (tv:Value),(((z1.r=z.r/\z1.cap=z.cap)/\sz<=z1.fr/\∀x∈L,x.key≠K)/\Dn z1 ns (L) mb J I ek W)/\e=[(10,tv)]/\H=[z1.S,[(mb,.map J I)],W]) Wp ?hx_1 ?hy_1
 case hx_1=>
  refine A0<|Zl K1 Y<|Zp Y rfl<|Zh 8 HN rfl rfl eE Y<|CS (I1 Wo (z.root)) (BP isAgg152 Y (congrArg some B.mv)) rfl rfl<|Zm Y<|Zo Wh (EB (Dk GP (D:=fun _=>True)) fS kA B.map (fun _ _=>trivial) (trivial) (⟨by rw [hg];first|done|rfl,by rw [hg];first|done|rfl⟩) Y Y)<|Zm Y<|Zd Y rfl<|Zd Y rfl<|Za Y<|A3 Y<|A0<|Zm Y<|A5<|AX Y (fun g7=>by cases g7)<|fun g7=>AC<|Zn [10,1,2,3,4] ?_;refine BO (e':=[(10,_)]) (by exact ⟨z,es,ck,lm,su,_,⟨⟨⟨V,V⟩,kv,hK⟩,B⟩,V,V⟩)
 rintro _ _ ⟨z1,J,I,ek,W,tv,⟨⟨⟨j3,bg⟩,d9,U⟩,g⟩,rfl,rfl⟩;rw [<-j3,<-bg];have p8:=g.use (k:Int)
 have o9:z1.fr<=1000000:=by have h1:=g.free;have h2:=g.cap;have h3:=NZ g.sz 0;omega
 refine GV (s:=z1.S) Wo (fun cu=>?_);rw [Bl.keys]at cu;refine A0<|A3 Y<|Zq<|UB<|Zx<|Zq<|AR<|Zb [10,13,1,2,3,4] ?_;refine BA (e0:=[(10,_),(13,_)]) (fun m e H=>m=0/\(True)/\e=[(10,tv),(13,.slice none 0 0)]/\H=[]) (by exact ⟨V,trivial,V,V⟩) Wp ?_;rintro _ _ _ ⟨rfl,_,rfl,rfl⟩;refine Zq<|A0<|Zl K1 Y<|Zp Y V<|Zh 9 HN V rfl A4 Y<|CS (I1 Wo (z1.root)) (BP AD Y AN) V rfl<|Zm Y<|Zv (Dv Y Y)<|A5<|Aq Y (fun g5=>by omega)<|fun g5=>Ay<|Zt<|Zt<|AU<|Zx<|Zq<|A0<|Zl K1 Y<|Zp Y V<|Zh 9 HN V rfl A4 Y<|CS (I1 Wo (z1.root)) (BP AD Y AN) V rfl<|Zm Y<|Zv (Dv Y Y)<|A5<|Aq Y (fun g6=>by omega)<|fun g6=>AC<|Zx<|A0<|Zm Y<|Zm Y<|Zm Y<|Zv (BM (vs:=[(0,_),(1,_),(2,_)]) (cs:=#[_,_,_,_,_]) Y (AZ (pl:=#[(0,1),(1,1),(2,1),(3,1),(4,1)]) zeroValue155 Kx (fun _=>by kernel_rfl) V))<|Ze (Eu Y (cs:=#[.string K,I4 (k:Int),I4 sz,.pointer none,.pointer none]) A6)<|AE fun bn=>AG Y<|Zn [2,4,13,17] ?_;refine Zx<|Zq<|uu (b:=bn) (s:=z1.S) Wo Wo (fun ax=>?_);refine CK (s1:=z1.S) (s2:=[(bn,_)]) Wo Wo ?_;rw [show z1.S++[(bn,Obj.cells #[.string K,I4 (k:Int),I4 sz,.pointer none,.pointer none] 155 (0,0))]=(z1.more (⟨bn,K,(k:Int),sz⟩:Bt)).S from Bl.more_S z1 (⟨bn,K,(k:Int),sz⟩:Bt) ax];refine GV (s:=(z1.more (⟨bn,K,(k:Int),sz⟩:Bt)).S) Wo (fun O=>?_);rw [Bl.keys]at O;obtain ⟨p2,gF,af,cO,G⟩:=YZ g cu (⟨bn,K,(k:Int),sz⟩:Bt) ax;refine Zg<|Zm Y<|Zl K1 Y<|Zp Y V<|Zh 0 HN V rfl sizeOf157 Y<|Zh 0 fR V rfl eC Y<|Zc [_,_] Y call76 Y V (Qo (z1.more (⟨bn,K,(k:Int),sz⟩:Bt)) O cO gF af) ?_;rintro _ _ ⟨_,⟨rfl,rfl⟩,rfl⟩
 refine A5<|A0<|Zl K1 Y<|Zp Y V<|Zh 8 HN V rfl eE Y<|CS (I1 Wo ((Bl.root ({(z1.more (⟨bn,K,(k:Int),sz⟩:Bt))with nx:=DY (DY (z1.more (⟨bn,K,(k:Int),sz⟩:Bt)).nx (⟨bn,K,(k:Int),sz⟩:Bt).b (pV (z1.more (⟨bn,K,(k:Int),sz⟩:Bt)).r)) p2 (pV (⟨bn,K,(k:Int),sz⟩:Bt).b),bf:=DY (DY (z1.more (⟨bn,K,(k:Int),sz⟩:Bt)).bf (⟨bn,K,(k:Int),sz⟩:Bt).b (pV p2)) (z1.more (⟨bn,K,(k:Int),sz⟩:Bt)).r (pV (⟨bn,K,(k:Int),sz⟩:Bt).b)}:Bl)))) (BP isAgg152 Y (congrArg some g.mv)) V rfl<|Zm Y<|Zm Y<|Ze (FE (Dk GP (D:=fun _=>True)) fS g.map (fun _ _=>trivial) (trivial) Y Y Y Wo) ?_;rintro _ _ ⟨rfl,gy,gq,lw,gB,ic,rfl⟩;refine Z0<|Zn [4,13,17] ?_;refine Zx<|A0<|Zl K1 Y<|Zm Y<|Zc [_,_,_] Y call77 Y rfl (O4 ({(z1.more (⟨bn,K,(k:Int),sz⟩:Bt))with nx:=DY (DY (z1.more (⟨bn,K,(k:Int),sz⟩:Bt)).nx (⟨bn,K,(k:Int),sz⟩:Bt).b (pV (z1.more (⟨bn,K,(k:Int),sz⟩:Bt)).r)) p2 (pV (⟨bn,K,(k:Int),sz⟩:Bt).b),bf:=DY (DY (z1.more (⟨bn,K,(k:Int),sz⟩:Bt)).bf (⟨bn,K,(k:Int),sz⟩:Bt).b (pV p2)) (z1.more (⟨bn,K,(k:Int),sz⟩:Bt)).r (pV (⟨bn,K,(k:Int),sz⟩:Bt).b)}:Bl) O (e:=(⟨bn,K,(k:Int),sz⟩:Bt)) cO (.inl rfl) g.used (k:=k) rfl (x:=FX (L) (k:Int)) (by rw [DO,Z1 hk];rfl) A1 (by show 0<=sz/\sz<=_;omega) (by show _<=z1.fr/\z1.fr<=_;omega)) ?_;rintro _ _ ⟨_,⟨rfl,o8,l8,rfl⟩,rfl⟩;refine A5<|A0<|Zm Y<|Za Y<|A3 Y<|AJ<|Km ?_;refine Ow V (qC results33 Y Y) (by exact ⟨V,({({(z1.more (⟨bn,K,(k:Int),sz⟩:Bt))with nx:=DY (DY (z1.more (⟨bn,K,(k:Int),sz⟩:Bt)).nx (⟨bn,K,(k:Int),sz⟩:Bt).b (pV (z1.more (⟨bn,K,(k:Int),sz⟩:Bt)).r)) p2 (pV (⟨bn,K,(k:Int),sz⟩:Bt).b),bf:=DY (DY (z1.more (⟨bn,K,(k:Int),sz⟩:Bt)).bf (⟨bn,K,(k:Int),sz⟩:Bt).b (pV p2)) (z1.more (⟨bn,K,(k:Int),sz⟩:Bt)).r (pV (⟨bn,K,(k:Int),sz⟩:Bt).b)}:Bl)with fr:=z1.fr -1*sz}:Bl),gy,gq,lw,o8,bn,V,V,Sk g G U gB ic V hk ⟨j5,d9⟩ l8,V⟩)
theorem wU{y:Bt}(B:Dn z ns (L1++y::L2) mb es ck lm su)(hd:z.bl.Nodup)(hk:k<ns){sz:Int}(lw:1<=sz)(qb:sz<=z.fr+y.sz):Ba prog 33 #[.pointer (some ⟨z.r,0,none⟩),I4 (k:Int),.string y.key,I4 sz] [z.S,[(mb,.map es ck)],su] (fun v H'=>v= .tuple #[.slice none 0 0,.bool true]/\∃z' ax af p8 gy b,z'.r=z.r/\z'.cap=z.cap/\Dn z' ns (L1++L2++[⟨b,y.key,(k:Int),sz⟩]) mb ax af p8 gy/\H'=[z'.S,[(mb,.map ax af)],gy]):=by
 obtain ⟨sha,ql,o8⟩:=B.sh;have hg:=B.get (e:=y) B0
 have j5:∀x∈L1++L2,x.key≠y.key:=fun x hx=>by
  have Z:=B.keys;rw [BW,DQ,H3,Hj]at Z;rcases B9.1 hx with hx|hx
  · exact Z.2.2 _ (DP hx) _ (E4 ..)
  · exact fun hh=>Z.2.1.1 (hh▸DP hx)
 refine DL func33 V ntmps33 V ?_;intro u R;refine Zb [0,1,2,3] ?_;refine A0<|Ze (Bx #[_])<|AE fun bp=>Za Y<|A3 Y<|U9 ?_;refine Zq<|A0<|Zl K1 Y<|Zv (Be mm Y Y)<|Zm Y<|Af (t:=20) Y V (fun gd=>by cases gd)<|fun gd=>Zf Y Y<|Yg (Au (n:=0) Y Y)<|Zv (AL Y Y)<|Zm Y<|Aj (t:=24) Y V (fun g2=>by omega)<|fun g2=>Zf Y Y<|Yl K1 Y<|Yg (Ap Y V)<|Yf 6 HN V rfl cQ Y<|Lu Y (I1 Wo (z.root)) (BP ar Y (congrArg some o8)) V rfl ?_;refine Yg (AY Cl Y)<|Yg (G6 Y Y)<|Zv (AL Y Y)<|Zm Y<|Aj (t:=33) Y V (fun g3=>by omega)<|fun g3=>Zf Y Y<|Yg (Dv Y Y)<|Zv (AL Y Y)<|Z0<|Zn [1,2,3,4,36] ?_;refine Zx<|Aq Y (fun g4=>by omega)<|fun g4=>AC<|Zx<|A0<|A3 Y<|Zb [10,1,2,3,4] ?_;refine DJ (e0:=[(10,_)]) (H0:=[z.S,[(mb,.map es ck)],su]) (fun e H=>∃(z1:Bl) (I:Array MapEntry) (G:Nat) (O:List (ByteArray×Value)) (J:List AA) (tv:Value),(((z1.r=z.r/\z1.cap=z.cap)/\sz<=z1.fr/\∀x∈L1++L2,x.key≠y.key)/\Dn z1 ns (L1++L2) mb I G O J)/\e=[(10,tv)]/\H=[z1.S,[(mb,.map I G)],J]) Wp ?hx_1 ?hy_1
 case hx_1=>
  refine A0<|Zl K1 Y<|Zp Y rfl<|Zh 8 HN rfl rfl eE Y<|CS (I1 Wo (z.root)) (BP isAgg152 Y (congrArg some B.mv)) rfl rfl<|Zm Y<|Zo Wh (EB (Dk GP (D:=fun _=>True)) fS kA B.map (fun _ _=>trivial) (trivial) (⟨by rw [hg];first|done|rfl,by rw [hg];first|done|rfl⟩) Y Y)<|Zm Y<|Zd Y rfl<|Zd Y rfl<|Za Y<|A3 Y<|A0<|Zm Y<|A5<|AX Y (fun g7=>?_) (fun g7=>?_);·
   refine A0<|Zl K1 Y<|Zm Y<|Zc [_,_] Y call72 Y V (Ux B hd) ?_;rintro _ _ ⟨_,⟨rfl,z9,I,G,O,J,l9,ic,qa,U,rfl⟩,rfl⟩;refine Z0<|Zn [1,2,3,4,10,11] ?_;refine Zx<|BU<|Zg<|Zm Y<|Zm Y<|Ze (Ah (vs:=[_]) (cs:=[_]) underlying169 Hx kA Y V rfl V rfl V)<|AE fun b2=>Ze (ET (by_:=8) (news:=[_]) underlying169 (V:Tryz.prog.info? 153=some Tryz.t153) V rfl V rfl Y (Fz 153) Y Wo Wh AN V Fm AH AH AH) ?_;rintro _ _ ⟨qo,gq,rfl⟩;obtain ⟨q9,pz,rfl⟩:=gq.form;refine AG Y<|Zn [10,1,2,3,4] ?_;refine BO (e':=[(10,_)]) (by exact ⟨z9,I,G,O,J,_,⟨⟨⟨l9,ic⟩,by have h1:=B.free;have h2:=U.free;rw [LX]at h1 h2;rw [Jz]at h1;omega,fun x hx=>j5 x hx⟩,U⟩,rfl,rfl⟩)
  cases g7
 rintro _ _ ⟨z1,I,G,O,J,tv,⟨⟨⟨l8,cO⟩,gm,X⟩,g⟩,rfl,rfl⟩;rw [<-l8,<-cO];have qj:=g.use (k:Int)
 have pq:z1.fr<=1000000:=by have h1:=g.free;have h2:=g.cap;have h3:=NZ g.sz 0;omega
 refine GV (s:=z1.S) Wo (fun d9=>?_);rw [Bl.keys]at d9;refine A0<|A3 Y<|Zq<|UB<|Zx<|Zq<|AR<|Zb [10,13,1,2,3,4] ?_;refine BA (e0:=[(10,_),(13,_)]) (fun m e H=>m=0/\(True)/\e=[(10,tv),(13,.slice none 0 0)]/\H=[]) (by exact ⟨V,trivial,V,V⟩) Wp ?_;rintro _ _ _ ⟨rfl,_,rfl,rfl⟩;refine Zq<|A0<|Zl K1 Y<|Zp Y V<|Zh 9 HN V rfl A4 Y<|CS (I1 Wo (z1.root)) (BP AD Y AN) V rfl<|Zm Y<|Zv (Dv Y Y)<|A5<|Aq Y (fun g5=>by omega)<|fun g5=>Ay<|Zt<|Zt<|AU<|Zx<|Zq<|A0<|Zl K1 Y<|Zp Y V<|Zh 9 HN V rfl A4 Y<|CS (I1 Wo (z1.root)) (BP AD Y AN) V rfl<|Zm Y<|Zv (Dv Y Y)<|A5<|Aq Y (fun g6=>by omega)<|fun g6=>AC<|Zx<|A0<|Zm Y<|Zm Y<|Zm Y<|Zv (BM (vs:=[(0,_),(1,_),(2,_)]) (cs:=#[_,_,_,_,_]) Y (AZ (pl:=#[(0,1),(1,1),(2,1),(3,1),(4,1)]) zeroValue155 Kx (fun _=>by kernel_rfl) V))<|Ze (Eu Y (cs:=#[.string y.key,I4 (k:Int),I4 sz,.pointer none,.pointer none]) A6)<|AE fun bn=>AG Y<|Zn [2,4,13,17] ?_;refine Zx<|Zq<|uu (b:=bn) (s:=z1.S) Wo Wo (fun cu=>?_);refine CK (s1:=z1.S) (s2:=[(bn,_)]) Wo Wo ?_;rw [show z1.S++[(bn,Obj.cells #[.string y.key,I4 (k:Int),I4 sz,.pointer none,.pointer none] 155 (0,0))]=(z1.more (⟨bn,y.key,(k:Int),sz⟩:Bt)).S from Bl.more_S z1 (⟨bn,y.key,(k:Int),sz⟩:Bt) cu];refine GV (s:=(z1.more (⟨bn,y.key,(k:Int),sz⟩:Bt)).S) Wo (fun W=>?_);rw [Bl.keys]at W;obtain ⟨p2,kv,bg,ek,K⟩:=YZ g d9 (⟨bn,y.key,(k:Int),sz⟩:Bt) cu;refine Zg<|Zm Y<|Zl K1 Y<|Zp Y V<|Zh 0 HN V rfl sizeOf157 Y<|Zh 0 fR V rfl eC Y<|Zc [_,_] Y call76 Y V (Qo (z1.more (⟨bn,y.key,(k:Int),sz⟩:Bt)) W ek kv bg) ?_;rintro _ _ ⟨_,⟨rfl,rfl⟩,rfl⟩
 refine A5<|A0<|Zl K1 Y<|Zp Y V<|Zh 8 HN V rfl eE Y<|CS (I1 Wo ((Bl.root ({(z1.more (⟨bn,y.key,(k:Int),sz⟩:Bt))with nx:=DY (DY (z1.more (⟨bn,y.key,(k:Int),sz⟩:Bt)).nx (⟨bn,y.key,(k:Int),sz⟩:Bt).b (pV (z1.more (⟨bn,y.key,(k:Int),sz⟩:Bt)).r)) p2 (pV (⟨bn,y.key,(k:Int),sz⟩:Bt).b),bf:=DY (DY (z1.more (⟨bn,y.key,(k:Int),sz⟩:Bt)).bf (⟨bn,y.key,(k:Int),sz⟩:Bt).b (pV p2)) (z1.more (⟨bn,y.key,(k:Int),sz⟩:Bt)).r (pV (⟨bn,y.key,(k:Int),sz⟩:Bt).b)}:Bl)))) (BP isAgg152 Y (congrArg some g.mv)) V rfl<|Zm Y<|Zm Y<|Ze (FE (Dk GP (D:=fun _=>True)) fS g.map (fun _ _=>trivial) (trivial) Y Y Y Wo) ?_;rintro _ _ ⟨rfl,gF,gB,p9,j3,l5,rfl⟩;refine Z0<|Zn [4,13,17] ?_;refine Zx<|A0<|Zl K1 Y<|Zm Y<|Zc [_,_,_] Y call77 Y rfl (O4 ({(z1.more (⟨bn,y.key,(k:Int),sz⟩:Bt))with nx:=DY (DY (z1.more (⟨bn,y.key,(k:Int),sz⟩:Bt)).nx (⟨bn,y.key,(k:Int),sz⟩:Bt).b (pV (z1.more (⟨bn,y.key,(k:Int),sz⟩:Bt)).r)) p2 (pV (⟨bn,y.key,(k:Int),sz⟩:Bt).b),bf:=DY (DY (z1.more (⟨bn,y.key,(k:Int),sz⟩:Bt)).bf (⟨bn,y.key,(k:Int),sz⟩:Bt).b (pV p2)) (z1.more (⟨bn,y.key,(k:Int),sz⟩:Bt)).r (pV (⟨bn,y.key,(k:Int),sz⟩:Bt).b)}:Bl) W (e:=(⟨bn,y.key,(k:Int),sz⟩:Bt)) ek (.inl rfl) g.used (k:=k) rfl (x:=FX (L1++L2) (k:Int)) (by rw [DO,Z1 hk];rfl) A1 (by show 0<=sz/\sz<=_;omega) (by show _<=z1.fr/\z1.fr<=_;omega)) ?_;rintro _ _ ⟨_,⟨rfl,pg,o9,rfl⟩,rfl⟩;refine A5<|A0<|Zm Y<|Za Y<|A3 Y<|AJ<|Km ?_;refine Ow V (qC results33 Y Y) (by exact ⟨V,({({(z1.more (⟨bn,y.key,(k:Int),sz⟩:Bt))with nx:=DY (DY (z1.more (⟨bn,y.key,(k:Int),sz⟩:Bt)).nx (⟨bn,y.key,(k:Int),sz⟩:Bt).b (pV (z1.more (⟨bn,y.key,(k:Int),sz⟩:Bt)).r)) p2 (pV (⟨bn,y.key,(k:Int),sz⟩:Bt).b),bf:=DY (DY (z1.more (⟨bn,y.key,(k:Int),sz⟩:Bt)).bf (⟨bn,y.key,(k:Int),sz⟩:Bt).b (pV p2)) (z1.more (⟨bn,y.key,(k:Int),sz⟩:Bt)).r (pV (⟨bn,y.key,(k:Int),sz⟩:Bt).b)}:Bl)with fr:=z1.fr -1*sz}:Bl),gF,gB,p9,pg,bn,V,V,Sk g K X j3 l5 V hk ⟨lw,gm⟩ o9,V⟩)
end Go.Proofs.YtfhjaegddfehhaaGreatDoor
