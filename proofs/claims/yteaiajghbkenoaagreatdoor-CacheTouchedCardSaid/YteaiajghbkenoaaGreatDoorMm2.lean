/- Match. -/
/- Contracts: strings.Builder. -/
/- The line of a query (plain); its parts. -/
/- The forms of the lines. -/
/- query.Print. -/
/- The keys of a map, sorted: string. -/
/- The ring of a pool. -/
/- The pool: what holds of it, its entries counted, taken and put. -/
import Derived.Test.YteaiajghbkenoaaGreatDoorEz
import Derived.Test.YteaiajghbkenoaaGreatDoorCo1
import Derived.Test.YteaiajghbkenoaaGreatDoorPr3
import Derived.Test.YteaiajghbkenoaaGreatDoorEx36
import Derived.Test.YteaiajghbkenoaaGreatDoorLg4
import Derived.Test.YteaiajghbkenoaaGreatDoorQe3
import Derived.Test.YteaiajghbkenoaaGreatDoorQe1
import Derived.Test.YteaiajghbkenoaaGreatDoorEx5
import Derived.Test.YteaiajghbkenoaaGreatDoorProg
set_option linter.unusedVariables false
set_option linter.unusedSimpArgs false
namespace Go.Proofs.YteaiajghbkenoaaGreatDoor
open Go.Proofs.Tryz
open Go Go.RowKit Gw
set_option maxRecDepth 100000
attribute [local irreducible] Gw.At Gw.Nx Gw.Ops
variable{qs:List (Int×QM)}{c:Chg}
theorem sG{sc:Int->Int->List IvM}{jn:Int->List Int}(I:JK qs sc jn)(J:∀x∈qs,BI x.2){cs:List Chg}{k:Nat}(hc:cs[k]?=some c)(i:Int):(JL qs (cs.take k) i\/(i∈NC sc jn c/\JL qs [c] i))↔JL qs (cs.take (k+1)) i:=by
 rw [Bh hc];unfold JL;constructor
 · rintro (⟨x,B,G,d,g,m⟩|⟨_,x,B,G,d,g,m⟩)
   · exact ⟨x,B,G,d,DS _ g,m⟩
   · exact ⟨x,B,G,d,G1 _ g,m⟩
 · rintro ⟨x,B,G,d,g,m⟩
   rcases B9.1 g with g|g
   · exact .inl ⟨x,B,G,d,g,m⟩
   · refine .inr ⟨?_,x,B,G,d,g,m⟩
     rw [BT.1 g]at m;rw [<-G];exact eF I B (J x B) m
variable{es:Array MapEntry}{ck:Nat}{lm:List (Int×Value)}{y:Int×QM}
theorem j6(g:Ed qs es ck lm)(B:y∈qs):JL qs [c] y.1↔Ce y.2 c=true:=by
 constructor
 · rintro ⟨x,J,I,d,G,m⟩
   rw [BT.1 G]at m;rwa [zC g J B I]at m
 · intro h;exact ⟨y,B,rfl,c,by simp,h⟩
theorem mJ(g:Ed qs es ck lm)(m:y∈qs)(h:Ce y.2 c=true){S:Int->Prop}{pre:List Int}(i:Int):((S i\/(i∈pre/\JL qs [c] i))\/i=y.1)↔(S i\/(i∈pre++[y.1]/\JL qs [c] i)):=by
 rw [B9,BT];constructor
 · rintro ((h1|⟨h1,h2⟩)|rfl)
   · exact .inl h1
   · exact .inr ⟨.inl h1,h2⟩
   · exact .inr ⟨.inr rfl,(j6 g m).2 h⟩
 · rintro (h1|⟨h1|rfl,h2⟩)
   · exact .inl (.inl h1)
   · exact .inl (.inr ⟨h1,h2⟩)
   · exact .inr rfl
theorem ZX(g:Ed qs es ck lm)(m:y∈qs){S:Int->Prop}{pre:List Int}(h:Ce y.2 c=true->S y.1\/(y.1∈pre/\JL qs [c] y.1))(i:Int):(S i\/(i∈pre/\JL qs [c] i))↔(S i\/(i∈pre++[y.1]/\JL qs [c] i)):=by
 rw [B9,BT];constructor
 · rintro (h1|⟨h1,h2⟩)
   · exact .inl h1
   · exact .inr ⟨.inl h1,h2⟩
 · rintro (h1|⟨h1|rfl,h2⟩)
   · exact .inl h1
   · exact .inr ⟨h1,h2⟩
   · exact h ((j6 g m).1 h2)
theorem eO{ip mp:Nat}(J:Ed qs es ck lm)(hq:∀x∈qs,BI x.2)(hl:qs.length<=500){lv:Value}{ML:List A9}(X:WG qs lv ML)(p:Int){MC:List A9}{qa:Option Addr}{cap:Nat}{cs:List Chg}(hC:Ck MC (.slice qa cs.length cap) cs)(sw:cs.length<=1000)(ek:∀c∈cs,c.ok):Ba prog 56 #[I5 ip,.agg #[I4 p,.slice qa cs.length cap]] [[(ip,.cells #[.map (some mp),lv] 186 (0,0))],[(mp,.map es ck)],ML,MC] (fun r H'=>∃(zs:List Int) (s':List A9) (lv':Value) (ML':List A9),(∀i,i∈zs↔JL qs cs i)/\zs.Nodup/\(zs.Pairwise fun x y=>x<=y)/\Row 3 r (zs.map (Value.int .i64)) s'/\WG qs lv' ML'/\H'=[[(ip,.cells #[.map (some mp),lv'] 186 (0,0))],[(mp,.map es ck)],ML',MC,s']):=by
 have ve:=mL;obtain ⟨pc,qj,pz,sJ,l5⟩:=id hC;injection pz with hv1 hv2 hv3
 subst hv1 hv3;have sO:=J.len
 refine DK func56 V ntmps56 V ?_;intro u R;refine Zb [0,1] ?_;refine A0<|Ze (Bx #[_])<|AD fun bx=>Ze (Bx #[I4 p,.slice qa cs.length cap])<|AD fun br=>A3 Y<|Zq<|A0<|Zl isAgg116 Y ?_;refine Zv (Be underlying116 Y Y)<|A4<|AV Y (fun d9=>by cases d9)<|fun d9=>AC<|Zx<|A0<|Ze (DR)<|AD fun mf=>Ze (Al zeroValue213 #[_])<|AD fun bf=>Xe (Zs sizeOf213 Y Y V) ?_;refine A4<|Zq<|A0<|Zh 1 GF V rfl Ks Y<|Zl Lq Y ?_;refine Zv (Ab G3 Y)<|Zm Y<|A4<|AP<|Zb [15,2,5,13,14] ?_;refine uP (e0:=[(15,_)]) (H0:=_) (n:=_) (fun m e H=>∃(k:Nat) (lv:Value) (ML:List A9) (U:Array MapEntry) (O:Nat) (cu:List (Int×Value)),m=cs.length -k/\(k<=cs.length/\WG qs lv ML/\Hy (JL qs (cs.take k)) U O cu)/\e=[(15,I4 (k:Int))]/\H=[[(ip,.cells #[.map (some mp),lv] 186 (0,0))],ML,[(mf,.map U O)]]) (by exact ⟨0,lv,ML,#[],0,[],V,⟨C0 _,X,fO.cong fun i=>by unfold JL;simp⟩,V,V⟩) Wp ?_;rintro Ds _ _ _ ⟨k,lv,ML,U,O,cu,rfl,⟨hk,X,hF⟩,rfl,rfl⟩;refine A0<|Zv (Au Y Y)<|A4<|Zq<|Av Y (fun o8=>?_) (fun o8=>?_)
 ·
  obtain ⟨c,hc⟩:∃c,cs[k]?=some c:=⟨_,B4 A1⟩;have ax:=ek c (DG hc)
  have vo:=bP ax;obtain ⟨g,off,cur,T,zz,rfl,p8,qo,gm⟩:=l5 k c hc;refine AC<|Zx<|Zq<|AP<|A0<|BX (Ad G3 C1 Y Y A1)<|CO (Gf Wo (p8)) (AA (cs:=c.A15) Fk C1 Y A1 (by exact gm)) V rfl ?_;refine Ze (Al LI #[_,_,_,_,_,_,_,_,_,_])<|AD fun bc=>Xe (Xw C1 c.A15) ?_;refine A4<|Zq<|Az (n:=4) (0::1::0::7::[]) 10 A6 A6 V<|B3 0 V isAgg116 Y ?_;refine E6 2 V Wh (AA (cs:=#[_,_,_,_,_,_,_,_,_,_]) Fk C1 Y Wn (by exact BN V)) ?_;refine Zz (l:=[1])<|B1 [true,false] [(2,(_,_))] V rfl (Zw [_] Y call111 Y V (rD J hq hl X)) ?_ Bv Ag;rintro _ _ ⟨_,⟨lp,cO,sc,jn,rfl,hL,hW,rfl⟩,rfl⟩;refine B5<|Zz (l:=[3])<|B1 [false] [] V rfl (Zw [_,_] Y call112 Y V (kg lp c)) ?_ Bv Ag;rintro _ _ ⟨_,⟨bl,bn,rfl,rfl⟩,rfl⟩;refine B5<|Ai<|Zx<|AP<|Zb [2,5,7,13,14,15,22] ?_;refine PM (H0:=_) (R:=_) (I:=(fun(pre:List Int) H=>∃G B K,Hy (fun i=>JL qs (cs.take k) i\/(i∈pre/\JL qs [c] i)) G B K/\H=[[(ip,.cells #[.map (some mp),I5 lp] 186 (0,0))],[(mp,.map es ck)],cO,[(mf,.map G B)],[(bf,.cells #[.map (some mf)] 213 (0,0))],[(bx,.cells #[I5 ip] 116 (0,0))],[(bc,.cells c.A15 69 (0,0))]])) (E:=fun x e Hn=>e=[(8,I4 x),(23,I4 x)]/\Hn=[]) rfl Y call184 (ko hL c (bN ax) A1 (hW.small c.t) bn bl) (by rintro pre _ c1 c2 ⟨sj,qz,vw,h9,rfl⟩;intro q pg;simp [pg]) Y rfl Wp (⟨U,O,cu,hF.cong fun i=>by simp,rfl⟩) ?ha_5 ?hbd_5 ?hk_5
  case ha_5=>
   intro _ x _ _;refine Zg<|AG Y<|Li (e:=[(8,_),(23,_)]) (Hn:=[]) ?_;exact ⟨V,V⟩
  case hbd_5=>
   intro l pre x qw u e9 qx H1 R1 r9 q9 hI j5;obtain ⟨rfl,rfl⟩:=j5;obtain ⟨G,B,K,Z,rfl⟩:=hI;obtain ⟨y,hy,rfl⟩:=qf hW (c:=c) (i:=x) (by rw [q9];simp);have l9:=J.get hy
   have ql:Decidable (JL qs (cs.take k) y.1\/(y.1∈pre/\JL qs [c] y.1)):=Classical.propDecidable _;have l8:=Z.get y.1
   refine AP<|Zq<|Az (n:=14) (0::0::3::7::15::31::63::127::255::31::1023::31::4095::8191::[]) 4096 A6 A6 V<|B3 0 V isAgg213 Y ?_;refine A2 1 V (AQ Y)<|E6 2 V Wh (Dj (CX Cl (D:=fun _=>True)) underlying213 Up Z.map (fun _ _=>trivial) (trivial) (l8) Y Y) ?_;refine A2 3 V (DD Y)<|A2 4 V (AQ Y)<|Db (t:=28) Y (fun W=>?_) (fun W=>?_)
   ·
    rw [DA W];refine DQ 5 V Wh (BO isAgg116 Y AM) ?_;refine An 6 V (Ap Y V)<|An 7 V (AB (off:=0) PF V rfl db Y)<|DQ 8 V Wh (BO dd Y AM) ?_;refine An 9 rfl (AQ Y)<|DQ 10 rfl Wh (Dj (CX Cl (D:=fun _=>True)) cS MY J.map (fun _ _=>trivial) (trivial) (by rw [l9];first|done|rfl) Y Y) ?_;refine DQ 11 V Wh (AA (cs:=c.A15) Fk C1 Y Wn (by exact BN V)) ?_;refine Yw 12 8191 V (Zu [_,_] Y call22 Y V (Im y.2 c)) ?_;rintro _ _ ⟨rfl,rfl⟩;rw [DA (hq y hy),DA ax,Rg,Rg];refine A2 13 V (AX Y Y)<|Ai<|Zn [5,8,37] ?_;refine Zx<|AV Y (fun af=>?_) (fun af=>?_)
    ·
     have h9:=af;refine Zg<|Zl isAgg213 Y ?_;refine Zm Y<|Ze (F9 (CX Cl (D:=fun _=>True)) underlying213 Z.map (fun _ _=>trivial) (trivial) Y Y Y Wo) ?_;rintro _ _ ⟨rfl,j3,ic,qb,o9,p9,rfl⟩;refine Z0<|A8<|Ez V (by exact ⟨j3,ic,qb,(Z.put o9 p9).cong (mJ J hy h9),V⟩)
    have h9:Ce y.2 c=true->JL qs (cs.take k) y.1\/(y.1∈pre/\JL qs [c] y.1):=fun h=>by rw [af]at h;cases h
    refine AC<|A8<|Ez V (by exact ⟨G,B,K,Z.cong (ZX J hy h9),V⟩)
   rw [CI W];have h9:Ce y.2 c=true->JL qs (cs.take k) y.1\/(y.1∈pre/\JL qs [c] y.1):=fun _=>HS.1 W
   refine AF 5 V<|AF 6 V<|AF 7 V<|AF 8 V<|AF 9 V<|AF 10 V<|AF 11 V<|AF 12 V<|A2 13 V (AL Y Y)<|Ai<|Zn [5,8,37] ?_;refine Zx<|D5 Y<|AC<|A8<|Ez V (by exact ⟨G,B,K,Z.cong (ZX J hy h9),V⟩)
  intro D1 H2 kv;obtain ⟨G,B,K,Z,rfl⟩:=kv;refine Zn [2,5,13,14,15] ?_;refine A8<|A8<|Zx<|Zg<|Ya (n:=1) Y Y<|Zm Y<|Z0<|Zn [15,2,5,13,14] ?_;refine eB (Ds:=Ds) (e':=[(15,_)]) (by exact ⟨k+1,_,cO,G,B,K,V,⟨by omega,.inr ⟨lp,sc,jn,V,hL,hW⟩,Z.cong (sG hW hq hc)⟩,V,V⟩) Wo Wo
 obtain rfl:k=cs.length:=by omega
 rw [FF]at hF;refine Ay<|Zt<|Zt<|AR<|Zx<|Zq ?_;have sM:=hF.len (qs:=qs) fun i h=>by
  obtain ⟨x,hx,he,_⟩:=h;exact ⟨x,hx,he⟩
 refine Zg<|Zl isAgg213 Y ?_;refine Zc [_] Y call114 Y V (fB mf) ?_;rintro _ _ ⟨_,⟨bk,rfl,rfl⟩,rfl⟩;refine Zc [_] Y call113 Y V (WX hF.map A1 bk mf (M:=[(mf,.map U O)]) B0) ?_;rintro _ _ ⟨_,⟨zs,s4,gq,gy,pq,rfl⟩,rfl⟩;refine A3 Y<|AJ<|qZ (Ds:=Ds) rfl (dF results56 Y) Wo (by exact ⟨zs,s4,lv,ML,fun i=>by rw [gq.mem_iff,hF.mem],gq.nodup_iff.2 hF.map.keys,gy,pq,X,rfl⟩)
theorem R7(b:Nat)(v:Value):Ba prog 86 #[I5 b] [[(b,.cells #[.pointer none,v] 99 (0,0))]] (fun r H'=>r= .tuple #[]/\H'=[[(b,.cells #[I5 b,v] 99 (0,0))]]):=by
 refine Se func86 ntmps86 [0] ?_;intro u R;refine A0<|Zm Y<|Zp Y V<|Zh 0 S2 V rfl sizeOf96 Y<|Zl isAgg96 Y ?_;refine Zv (NB eV Y Y)<|A4<|AV Y (fun g=>?_) (fun g=>?_)
 ·
  refine Zg<|Zm Y<|Zm Y<|Zo Wh (Ye (c:=#[.pointer none,v]) eV underlying236 (V:Tryz.prog.info? 99=some Tryz.t99) AN (Nat.zero_lt_succ 1) Y) ?_;refine Ka (qM (vs:=[_]) (e:=Extern.AbiNoEscape.same) func155 A6 A6 A6 A6 Y Y) V rfl ?_;refine Zo Wh (UO underlying236 eV (V:Tryz.prog.info? 99=some Tryz.t99) (show liesAt _ _ _ (2/_) 0 _ 1=true from by kernel_rfl) Y) ?_;refine Zp Y V<|Zh 0 S2 V rfl sizeOf96 Y<|Xe (Zs sizeOf96 Y Y V) ?_;refine Z0<|Cv V results86 (by exact ⟨V,V⟩)
 cases g
theorem M4(b:Nat)(v:Value):Ba prog 86 #[I5 b] [[(b,.cells #[I5 b,v] 99 (0,0))]] (fun r H'=>r= .tuple #[]/\H'=[[(b,.cells #[I5 b,v] 99 (0,0))]]):=by
 refine Se func86 ntmps86 [0] ?_;intro u R;refine A0<|Zm Y<|Zp Y V<|Zh 0 S2 V rfl sizeOf96 Y<|Zl isAgg96 Y ?_;refine Zv (Be eV Y Y)<|A4<|AV Y (fun g=>by cases g)<|fun g=>A0<|Zm Y<|Zp Y V<|Zh 0 S2 V rfl sizeOf96 Y<|Zl isAgg96 Y ?_;refine Zm Y<|Ka (Su eV (V:Tryz.prog.info? 99=some Tryz.t99) Y Y) V rfl ?_;refine A4<|D5 Y<|AC<|Cv V results86 (by exact ⟨V,V⟩)
theorem JN(b:Nat)(v:Value)(l x:List UInt8)(G:List A9)(g:Row 5 v (l.map u8v) G)(h0:0<x.length)(hb:l.length+x.length<=1099511627776):Ba prog 36 #[I5 b,.string (str x)] [[(b,.cells #[.pointer none,v] 99 (0,0))],G] (fun r H'=>∃I B K,Row 5 I ((l++x).map u8v) B/\r=K/\H'=[[(b,.cells #[I5 b,I] 99 (0,0))],B]):=by
 have J:=mL;obtain ⟨Z,W,rfl⟩:=g.form;refine Se func36 ntmps36 [0,1] ?_;intro u R;refine A0<|Za Y<|A3 Y<|A0<|Zm Y<|Zc [_] Y call86 Y V (R7 b _) ?_;rintro _ _ ⟨_,⟨rfl,rfl⟩,rfl⟩;refine A4<|A0<|Zm Y<|Zm Y<|Zp Y V<|Zh 1 S2 V rfl N6 Y<|Zl S6 Y ?_;refine Zm Y<|Ze (O8 (by_:=1) HA GO (V:Tryz.prog.info? 5=some Tryz.t5) V rfl V rfl Y g Y Wo A1 (by(rw [B2];omega)) (by(rw [B2];omega))) ?_;rintro _ _ ⟨O,m,rfl⟩;obtain ⟨X,U,rfl⟩:=m.form;refine Zp Y V<|Zh 1 S2 V rfl N6 Y<|Xe (Zs N6 Y Y V) ?_;refine Z0<|Zn [1] ?_;refine Zx<|A0<|Zm Y<|Zv (Q4 GO Y)<|Za Y<|A3 Y<|AJ<|Cu rfl results36 Y Y (by exact ⟨_,O,_,(by rw [BW];exact m),rfl,rfl⟩)
theorem PR(b:Nat)(v:Value)(l x:List UInt8)(G:List A9)(g:Row 5 v (l.map u8v) G)(h0:0<x.length)(hb:l.length+x.length<=1099511627776):Ba prog 36 #[I5 b,.string (str x)] [[(b,.cells #[I5 b,v] 99 (0,0))],G] (fun r H'=>∃I B K,Row 5 I ((l++x).map u8v) B/\r=K/\H'=[[(b,.cells #[I5 b,I] 99 (0,0))],B]):=by
 have J:=mL;obtain ⟨Z,W,rfl⟩:=g.form;refine Se func36 ntmps36 [0,1] ?_;intro u R;refine A0<|Za Y<|A3 Y<|A0<|Zm Y<|Zc [_] Y call86 Y V (M4 b _) ?_;rintro _ _ ⟨_,⟨rfl,rfl⟩,rfl⟩;refine A4<|A0<|Zm Y<|Zm Y<|Zp Y V<|Zh 1 S2 V rfl N6 Y<|Zl S6 Y ?_;refine Zm Y<|Ze (O8 (by_:=1) HA GO (V:Tryz.prog.info? 5=some Tryz.t5) V rfl V rfl Y g Y Wo A1 (by(rw [B2];omega)) (by(rw [B2];omega))) ?_;rintro _ _ ⟨O,m,rfl⟩;obtain ⟨X,U,rfl⟩:=m.form;refine Zp Y V<|Zh 1 S2 V rfl N6 Y<|Xe (Zs N6 Y Y V) ?_;refine Z0<|Zn [1] ?_;refine Zx<|A0<|Zm Y<|Zv (Q4 GO Y)<|Za Y<|A3 Y<|AJ<|Cu rfl results36 Y Y (by exact ⟨_,O,_,(by rw [BW];exact m),rfl,rfl⟩)
theorem Nw(b g cap:Nat)(p:Value)(l:List UInt8)(cur:Array Value)(z:Nat×Nat)(h0:0<l.length)(hc:cap≠0)(B:l.length<=9223372036854775807)(m:cur.toList.take l.length=l.map u8v):Ba prog 40 #[I5 b] [[(b,.cells #[p,I6 g l.length cap] 99 (0,0))],[(g,.cells cur 5 z)]] (fun r H'=>r= .string (str l)/\H'=[[(b,.cells #[p,I6 g l.length cap] 99 (0,0))]]):=by
 refine Se func40 ntmps40 [0] ?_;intro u R;refine A0<|A3 Y<|Zq<|Az (n:=12) (0::1::3::7::15::0::32::96::224::480::1023::2047::[]) 1040 A6 A6 V<|A2 0 V (AQ Y)<|A2 1 V (Ap Y V)<|A2 2 V (AB (off:=1) S2 V rfl N6 Y)<|B3 3 V S6 Y ?_;refine A2 5 V (AQ Y)<|A2 6 V (Ap Y V)<|A2 7 V (AB (off:=1) S2 V rfl N6 Y)<|B3 8 V S6 Y ?_;refine A2 9 V (Ab HA Y)<|Zz (l:=[4])<|B1 [true,false] [(8,(_,_))] V rfl (Xu Y hc) ?_ (fun _ _ h=>h.elim) Ag;rintro _ _ ⟨rfl,rfl⟩;refine B5<|Yw 10 2047 V (RX (l:=l) underlying173 A6 Y Y (List.ne_nil_of_length_pos h0) B Wo m)<|CM<|A2 11 V (Aw Y)<|Ai<|Zn [2] ?_;refine Zx<|AJ<|AO V results40 Y (by exact ⟨V,V⟩)
def Mq(k:Int):List UInt8:=if k=1 then [114,111,119]else if k=2 then [114,111,119,115]else if k=3 then [99,111,117,110,116]else if k=4 then [115,117,109]else if k=5 then [109,105,110]else if k=6 then [109,97,120]else [106,111,105,110]
def Gz(k:Int):List Nat:=if k=1 then [1,3]else if k=2\/k=3 then [1,2,3,4]else if k=7 then [5,6,1,2,3,4]else [5,1,2,3,4]
def XJ(k:Int):Nat:=if k=1 then 82 else if k=2\/k=3 then 83 else if k=7 then 85 else 84
def Ih(k:Int)(i:Int):List UInt8:=if i=1 then(if k=4\/k=5\/k=6 then [111,102]else if k=7 then [116,111]else [])else if i=2/\k=7 then [111,102]else []
def NF(k:Int)(g1 g7:Nat):Value:=if k=7 then .map (some g7)else if k=4\/k=5\/k=6 then .map (some g1)else .map none
def Jp(q:QM)(o:Nat):Int:=if o=1 then q.tb else if o=2 then q.cl else if o=3 then q.lo else if o=4 then q.hi else if o=5 then q.bq else q.ot
def SL(l x:List UInt8):List UInt8:=l++32::x
def Lp(q:QM)(l:List UInt8)(i:Nat):List UInt8:=if Ih q.kd i=[]then l else SL l (Ih q.kd i)
def upP(q:QM):Nat->List UInt8
 |0=>Mq q.kd
 |i+1=>SL (Lp q (upP q i) i) (Lib.itoa (Jp q ((Gz q.kd).getD i 0)))
theorem O9(q:QM)(i:Nat):upP q (i+1)=SL (Lp q (upP q i) i) (Lib.itoa (Jp q ((Gz q.kd).getD i 0))):=rfl
def Cr(q:QM):List UInt8:=upP q (Gz q.kd).length
theorem xE(k:Int):(Gz k).length<=6:=by
 unfold Gz;split
 · decide
 · split
   · decide
   · split<;>decide
theorem xD(k:Int):0<(Gz k).length:=by
 unfold Gz;split
 · decide
 · split
   · decide
   · split<;>decide
theorem tC(k:Int):∀o∈Gz k,o<=6:=by
 unfold Gz;split
 · decide
 · split
   · decide
   · split<;>decide
theorem tF(k:Int):∀o∈Gz k,1<=o:=by
 unfold Gz;split
 · decide
 · split
   · decide
   · split<;>decide
theorem qg:∀(k u:Nat),1<=k->u<10^k->Lib.nDigits u<=k
 |0,_,h,_=>by omega
 |k+1,u,_,h=>by
  by_cases g:u<10
  · rw [Lib.nDigits_small g];omega
  · rw [Lib.nDigits_big g]
    have m:1<=k:=by
     rcases OS k with rfl|h2
     · simp at h;omega
     · exact h2
    have:=qg k (u/10) m (by rw [eJ]at h;omega);omega
theorem TL(n:Int)(h:-9223372036854775808<=n/\n<=9223372036854775807):0<(Lib.itoa n).length/\(Lib.itoa n).length<=21:=by
 unfold Lib.itoa;split
 · rw [DE,Lib.decDigits_length]
   have:=qg 20 n.natAbs AN A1;omega
 · rw [Lib.decDigits_length]
   have:=qg 20 n.toNat AN A1;have:=Lib.nDigits_pos n.toNat
   omega
theorem Oz(k i:Int):(Ih k i).length<=2:=by
 unfold Ih;split
 · split
   · decide
   · split<;>decide
 · split<;>decide
theorem Xt(k:Int):0<(Mq k).length/\(Mq k).length<=5:=by
 unfold Mq;split
 · decide
 · split
   · decide
   · split
     · decide
     · split
       · decide
       · split
         · decide
         · split<;>decide
theorem KR{q:QM}(g:∀o,-9223372036854775808<=Jp q o/\Jp q o<=9223372036854775807):∀i,0<(upP q i).length/\(upP q i).length<=5+25*i
 |0=>by
  have:=Xt q.kd;unfold upP;omega
 |i+1=>by
  have h:=KR g i;have m:=TL _ (g ((Gz q.kd).getD i 0))
  have h2:=Oz q.kd i;unfold upP Lp SL;rw [B7,DE];split
  · omega
  · rw [B7,DE];omega
theorem Om(q:QM)(l:List UInt8)(i:Nat):(Lp q l i).length<=l.length+3:=by
 have:=Oz q.kd i;unfold Lp SL;split
 · omega
 · rw [B7,DE];omega
theorem vI{q:QM}(h:BI q)(o:Nat):-9223372036854775808<=Jp q o/\Jp q o<=9223372036854775807:=by
 obtain ⟨g,h2,m,B⟩:=h;unfold Jp;split
 · omega
 · split
   · omega
   · split
     · omega
     · split
       · omega
       · split<;>omega
theorem iN(q:QM){o:Nat}(g:1<=o)(h2:o<=6):(q.A17:Array Value)[o]?=some (I4 (Jp q o)):=by
 rcases (by omega:o=1\/o=2\/o=3\/o=4\/o=5\/o=6)with rfl|rfl|rfl|rfl|rfl|rfl<;>rfl
theorem Md(n:Int)(hn:-9223372036854775808<=n/\n<=9223372036854775807)(Tp:TypeId)(zp:Nat×Nat):BJ prog 39 #[I4 n] [[(1,.cells (Lib.pow10Tab.map fun z=>Value.int .u64 z).toArray Tp zp)]] (.string (str (Lib.itoa n))):=fun u R w hs=>by
 have hg:=hs.get (1,.cells (Lib.pow10Tab.map fun z=>Value.int .u64 z).toArray Tp zp) B0;refine (Tryz.strconv_Itoa n hn.1 hn.2 w ?_).mono ?_
 · unfold Lib.TabIs World.var?
   rw [show Tryz.prog.globalNamed "internal/strconv.uint64pow10"=some 1 by kernel_rfl];simp only [I2,hg]
 · rintro e w' ⟨rfl,k,os,rfl⟩
   exact .inl ⟨_,_,V,⟨V,V⟩,Rt hs k os⟩
theorem Wy{P:Program}{α:Type}{κ:α->Value}{D:α->Prop}{k:α}{env:Env}{d:Option Nat}{ty:TypeId}{pos:String}{af:Array Edge}{g:Option (Nat×Bool)}{t kt G:TypeId}{m x:Operand}{z:Value}(I:Fp P kt κ D)(K:P.underlying t=some (.map kt G))(hz:∀w:World,(zeroValue G).run P w= .ok z w)(J:D k)(O:∀a,ev a env m= .map none)(U:∀a,ev a env x=κ k):
 OpP P ⟨d,.lookup t m x true,ty,pos,af,g⟩ env [] (.tuple #[z,.bool false]):=fun a w W=>by
 show((do pure (Next.value (<-Instr.lookup t (ev a env m) (ev a env x) true))):Sem Next).run P w=_;rw [O a,U a];have B:(Instr.findKey kt (κ k) []).run P w= .ok none w:=by
  rcases Hu I (ER κ) (fun p h=>by cases h) w k J with⟨B,_⟩|⟨j,v,_,h2⟩
  · exact B
  · simp at h2
 simp only [Instr.lookup,Sem.run_bind,run_underlying K,Result.andThen,Ew I J,Sem.run_pure,B,hz];rfl
theorem jm(bq:Nat):Ba prog 82 #[I5 bq] [] (fun r H'=>∃s,Row 108 r (([1,3]:List Nat).map fun o=> .pointer (some ⟨bq,o,none⟩)) s/\H'=[s]):=by
 refine Se func82 ntmps82 [0] ?_;intro u R;refine A0<|A3 Y<|Zq<|Az (n:=8) (0::1::3::0::8::24::63::127::[]) 64 A6 A6 V<|A2 0 V (AQ Y)<|A2 1 V (Ap Y V)<|A2 2 V (AB (off:=1) C6 V rfl A5 Y)<|A2 3 V (AQ Y)<|A2 4 V (Ap Y V)<|A2 5 V (AB (off:=3) C6 V rfl A5 Y)<|Zz (l:=[6])<|B1 [] [] V rfl (Ah (vs:=[_,_]) (cs:=[_,_]) PJ Sx W8 Y V rfl V rfl V) ?_ (fun _ _ h=>h.elim) Ag;rintro _ _ ⟨g,rfl,rfl⟩;refine B5<|A2 7 V (Aw Y)<|Ai<|Zx<|AJ<|AO V results82 Y (by exact ⟨_,JU _ g [.pointer (some ⟨bq,1,none⟩),.pointer (some ⟨bq,3,none⟩)] 2 V AN,V⟩)
theorem IJ(bq:Nat):Ba prog 83 #[I5 bq] [] (fun r H'=>∃s,Row 108 r (([1,2,3,4]:List Nat).map fun o=> .pointer (some ⟨bq,o,none⟩)) s/\H'=[s]):=by
 refine Se func83 ntmps83 [0] ?_;intro u R;refine A0<|A3 Y<|Zq<|Az (n:=14) (0::1::3::0::8::24::0::64::192::0::512::1536::4095::8191::[]) 4096 A6 A6 V<|A2 0 V (AQ Y)<|A2 1 V (Ap Y V)<|A2 2 V (AB (off:=1) C6 V rfl A5 Y)<|A2 3 V (AQ Y)<|A2 4 V (Ap Y V)<|A2 5 V (AB (off:=2) C6 V rfl A5 Y)<|A2 6 V (AQ Y)<|A2 7 V (Ap Y V)<|A2 8 V (AB (off:=3) C6 V rfl A5 Y)<|A2 9 V (AQ Y)<|A2 10 V (Ap Y V)<|A2 11 V (AB (off:=4) C6 V rfl A5 Y)<|Zz (l:=[12])<|B1 [] [] V rfl (Ah (vs:=[_,_,_,_]) (cs:=[_,_,_,_]) PJ Sx W8 Y V rfl V rfl V) ?_ (fun _ _ h=>h.elim) Ag;rintro _ _ ⟨g,rfl,rfl⟩;refine B5<|A2 13 V (Aw Y)<|Ai<|Zn [2] ?_;refine Zx<|AJ<|AO V results83 Y (by exact ⟨_,JU _ g [.pointer (some ⟨bq,1,none⟩),.pointer (some ⟨bq,2,none⟩),.pointer (some ⟨bq,3,none⟩),.pointer (some ⟨bq,4,none⟩)] 4 V AN,V⟩)
theorem nT(bq:Nat):Ba prog 84 #[I5 bq] [] (fun r H'=>∃s,Row 108 r (([5,1,2,3,4]:List Nat).map fun o=> .pointer (some ⟨bq,o,none⟩)) s/\H'=[s]):=by
 have U:=mL;refine Se func84 ntmps84 [0] ?_;intro u R;refine A0<|A3 Y<|Zq<|Az (n:=8) (0::1::3::7::0::16::63::127::[]) 104 A6 A6 V<|A2 0 V (AQ Y)<|A2 1 V (Ap Y V)<|A2 2 V (AB (off:=5) C6 V rfl A5 Y)<|A2 4 V (AQ Y)<|Zz (l:=[3,5])<|B1 [] [] V rfl (Ah (vs:=[_]) (cs:=[_]) PJ Sx W8 Y V rfl V rfl V) ?_ (fun _ _ h=>h.elim) ?_
 ·
  rintro _ _ ⟨g,rfl,rfl⟩;refine B5<|Zz (l:=[5])<|B1 [] [] V rfl (Zw [_] Y call83 Y V (IJ bq)) ?_ Bv Ag;rintro _ _ ⟨_,⟨s2,B,rfl⟩,rfl⟩;refine ⟨AZ,?_⟩;obtain ⟨O,K,rfl⟩:=B.form;refine Yw 6 127 V (Gi (by_:=8) PJ (V:Tryz.prog.info? 108=some Tryz.t108) V rfl V rfl Y ((JU _ g [.pointer (some ⟨bq,5,none⟩)] 1 V AN)) Y (B) Wo Wo Fm (by((simp;omega))) (by((simp;done)))) ?_;rintro _ _ ⟨J,m,rfl⟩;obtain ⟨I,G,rfl⟩:=m.form;refine A2 7 V (Aw Y)<|Ai<|Zx<|AJ<|AO V results84 Y (by exact ⟨_,m,V⟩)
 refine B1 [] [] V rfl (Zw [_] Y call83 Y V (IJ bq)) ?_ Bv Ag;rintro _ _ ⟨_,⟨s2,B,rfl⟩,rfl⟩;refine ⟨AZ,?_⟩;obtain ⟨O,K,rfl⟩:=B.form;refine Yw 3 63 V (Ah (vs:=[_]) (cs:=[_]) PJ Sx W8 Y V rfl V rfl V)<|AD fun g=>Yw 6 127 V (Gi (by_:=8) PJ (V:Tryz.prog.info? 108=some Tryz.t108) V rfl V rfl Y ((JU _ g [.pointer (some ⟨bq,5,none⟩)] 1 V AN)) Y (B) Wo Wo Fm (by((simp;omega))) (by((simp;done)))) ?_;rintro _ _ ⟨J,m,rfl⟩;obtain ⟨I,G,rfl⟩:=m.form;refine A2 7 V (Aw Y)<|Ai<|Zx<|AJ<|AO V results84 Y (by exact ⟨_,m,V⟩)
theorem fD(bq:Nat):Ba prog 85 #[I5 bq] [] (fun r H'=>∃s,Row 108 r (([5,6,1,2,3,4]:List Nat).map fun o=> .pointer (some ⟨bq,o,none⟩)) s/\H'=[s]):=by
 have U:=mL;refine Se func85 ntmps85 [0] ?_;intro u R;refine A0<|A3 Y<|Zq<|Az (n:=11) (0::1::3::0::8::24::63::0::128::511::1023::[]) 832 A6 A6 V<|A2 0 V (AQ Y)<|A2 1 V (Ap Y V)<|A2 2 V (AB (off:=5) C6 V rfl A5 Y)<|A2 3 V (AQ Y)<|A2 4 V (Ap Y V)<|A2 5 V (AB (off:=6) C6 V rfl A5 Y)<|A2 7 V (AQ Y)<|Zz (l:=[6,8])<|B1 [] [] V rfl (Ah (vs:=[_,_]) (cs:=[_,_]) PJ Sx W8 Y V rfl V rfl V) ?_ (fun _ _ h=>h.elim) ?_
 ·
  rintro _ _ ⟨g,rfl,rfl⟩;refine B5<|Zz (l:=[8])<|B1 [] [] V rfl (Zw [_] Y call83 Y V (IJ bq)) ?_ Bv Ag;rintro _ _ ⟨_,⟨s2,B,rfl⟩,rfl⟩;refine ⟨AZ,?_⟩;obtain ⟨O,K,rfl⟩:=B.form;refine Yw 9 1023 V (Gi (by_:=8) PJ (V:Tryz.prog.info? 108=some Tryz.t108) V rfl V rfl Y ((JU _ g [.pointer (some ⟨bq,5,none⟩),.pointer (some ⟨bq,6,none⟩)] 2 V AN)) Y (B) Wo Wo Fm (by((simp;omega))) (by((simp;done)))) ?_;rintro _ _ ⟨J,m,rfl⟩;obtain ⟨I,G,rfl⟩:=m.form;refine A2 10 V (Aw Y)<|Ai<|Zx<|AJ<|AO V results85 Y (by exact ⟨_,m,V⟩)
 refine B1 [] [] V rfl (Zw [_] Y call83 Y V (IJ bq)) ?_ Bv Ag;rintro _ _ ⟨_,⟨s2,B,rfl⟩,rfl⟩;refine ⟨AZ,?_⟩;obtain ⟨O,K,rfl⟩:=B.form;refine Yw 6 511 V (Ah (vs:=[_,_]) (cs:=[_,_]) PJ Sx W8 Y V rfl V rfl V)<|AD fun g=>Yw 9 1023 V (Gi (by_:=8) PJ (V:Tryz.prog.info? 108=some Tryz.t108) V rfl V rfl Y ((JU _ g [.pointer (some ⟨bq,5,none⟩),.pointer (some ⟨bq,6,none⟩)] 2 V AN)) Y (B) Wo Wo Fm (by((simp;omega))) (by((simp;done)))) ?_;rintro _ _ ⟨J,m,rfl⟩;obtain ⟨I,G,rfl⟩:=m.form;refine A2 10 V (Aw Y)<|Ai<|Zx<|AJ<|AO V results85 Y (by exact ⟨_,m,V⟩)
def TW(g1 g7:Nat):List (Int×Value):=[(1,.agg #[.string ⟨#[114,111,119]⟩,.func (.func 82) #[] #[],.map none]),(2,.agg #[.string ⟨#[114,111,119,115]⟩,.func (.func 83) #[] #[],.map none]),(3,.agg #[.string ⟨#[99,111,117,110,116]⟩,.func (.func 83) #[] #[],.map none]),(4,.agg #[.string ⟨#[115,117,109]⟩,.func (.func 84) #[] #[],.map (some g1)]),(5,.agg #[.string ⟨#[109,105,110]⟩,.func (.func 84) #[] #[],.map (some g1)]),(6,.agg #[.string ⟨#[109,97,120]⟩,.func (.func 84) #[] #[],.map (some g1)]),(7,.agg #[.string ⟨#[106,111,105,110]⟩,.func (.func 85) #[] #[],.map (some g7)])]
theorem ZY{g m:Nat}(h:∀p,p∈lm↔p∈TW g m)(I:(lm.map (·.1)).Nodup){k:Int}(B:1<=k/\k<=7):EF k lm=some (.agg #[.string (str (Mq k)),.func (.func (XJ k)) #[] #[],NF k g m]):=by
 have G:∀{k:Int} {v:Value},(k,v)∈TW g m->EF k lm=some v:=fun B=>Cw I ((h _).2 B);obtain h9|h9|h9|h9|h9|h9|h9:k=1\/k=2\/k=3\/k=4\/k=5\/k=6\/k=7:=by omega
 all_goals subst h9
 all_goals exact G (by simp [TW,XJ,Mq,NF,str])
structure uk(l1 l7:List (Int×Value)):Prop where
 a:∀p,p∈l1↔p=(1,.string ⟨#[111,102]⟩)
 b:∀p,p∈l7↔p=(2,.string ⟨#[111,102]⟩)\/p=(1,.string ⟨#[116,111]⟩)
theorem Vl(k:Int)(g m:Nat):(NF k g m).oneCell'=true:=by
 unfold NF;split
 · rfl
 · split<;>rfl
theorem qL{env:Env}{d:Option Nat}{ty:TypeId}{pos:String}{af:Array Edge}{g:Option (Nat×Bool)}{m x:Operand}{q:QM}(hq:1<=q.kd/\q.kd<=7){U W:Nat}{e1 e7:Array MapEntry}{c1 c7:Nat}{l1 l7:List (Int×Value)}(h1:Cj (fun n:Int=>Value.int .i64 n) e1 c1 l1)(X:Cj (fun n:Int=>Value.int .i64 n) e7 c7 l7)(J:uk l1 l7){i:Nat}(hx:∀a,ev a env m=NF q.kd U W)(hy:∀a,ev a env x=I4 (i:Int)):
 OpP prog ⟨d,.lookup 91 m x true,ty,pos,af,g⟩ env [(U,.map e1 c1),(W,.map e7 c7)] (.tuple #[.string (str (Ih q.kd i)),.bool (decide (Ih q.kd i≠[]))]):=by
 have hz:=HM;have hu:=cT
 by_cases B:q.kd=7
 · have cu:∀a,ev a env m= .map (some W):=fun a=>by rw [hx a];unfold NF;rw [AK B]
   have:=Dy (d:=d) (ty:=ty) (pos:=pos) (af:=af) (g:=g) (v0:= .string (str (Ih q.kd i))) (b0:=decide (Ih q.kd i≠[])) (CX Cl (D:=fun _=>True)) hu hz X (fun _ _=>trivial) trivial (k:=(i:Int)) (by
    unfold Ih;rw [B];by_cases I:(i:Int)=1
    · rw [I,Cw X.keys ((J.b (1,_)).2 (.inr rfl))];exact ⟨rfl,rfl⟩
    · by_cases a2:(i:Int)=2
      · rw [a2,Cw X.keys ((J.b (2,_)).2 (.inl rfl))];exact ⟨rfl,rfl⟩
      · rw [DV fun p Z K=>by rcases (J.b p).1 Z with rfl|rfl<;>simp at K<;>omega,AH I,AH A1];exact ⟨rfl,rfl⟩) cu hy
   exact fun a w O=>this a w fun c hc=>O c (by rw [BT.1 hc];simp)
 · by_cases G:q.kd=4\/q.kd=5\/q.kd=6
   · have bn:∀a,ev a env m= .map (some U):=fun a=>by rw [hx a];unfold NF;rw [AH B,AK G]
     have:=Dy (d:=d) (ty:=ty) (pos:=pos) (af:=af) (g:=g) (v0:= .string (str (Ih q.kd i))) (b0:=decide (Ih q.kd i≠[])) (CX Cl (D:=fun _=>True)) hu hz h1 (fun _ _=>trivial) trivial (k:=(i:Int)) (by
      unfold Ih;by_cases I:(i:Int)=1
      · rw [AK I,AK G,I,Cw h1.keys ((J.a (1,_)).2 rfl)];exact ⟨rfl,rfl⟩
      · rw [DV fun p Z K=>by rw [(J.a p).1 Z]at K;simp at K;omega,AH I,AH A1];exact ⟨rfl,rfl⟩) bn hy
     exact fun a w O=>this a w fun c hc=>O c (by rw [BT.1 hc];simp)
   · have ax:∀a,ev a env m= .map none:=fun a=>by rw [hx a];unfold NF;rw [AH B,AH G]
     have hg:Ih q.kd i=[]:=by
      unfold Ih;rw [AH G,AH B];split
      · rfl
      · split
        · rename_i h9;exact absurd h9.2 B
        · rfl
     rw [hg];have:=Wy (d:=d) (ty:=ty) (pos:=pos) (af:=af) (g:=g) (CX Cl (D:=fun _=>True)) hu hz (k:=(i:Int)) trivial ax hy
     exact fun a w O=>this a w fun c hc=>by cases hc
theorem TV:Ba prog 35 #[] [] (fun v H'=>∃b es ck lm g e1 c1 l1 m e7 c7 l7,v= .map (some b)/\Cj (fun n:Int=>Value.int .i64 n) es ck lm/\(∀p,p∈lm↔p∈TW g m)/\Cj (fun n:Int=>Value.int .i64 n) e1 c1 l1/\Cj (fun n:Int=>Value.int .i64 n) e7 c7 l7/\uk l1 l7/\H'=[[(b,.map es ck)],[(g,.map e1 c1)],[(m,.map e7 c7)]]):=by
 refine Se func35 ntmps35 [] ?_;intro u R;refine A0<|A3 Y<|A0<|Ze (DR)<|AD fun g=>Ze (EC (CX Cl (D:=fun _=>True)) cT (ER _) (fun _ _=>trivial) (trivial) Y Y Y Wo) ?_;rintro _ _ ⟨rfl,I,B,af,K,W,rfl⟩;refine Zm Y<|A3 Y<|A0<|Ze (DR)<|AD fun mb=>Zv (BK (vs:=[(0,.string ⟨#[114,111,119]⟩),(1,.func (.func 82) #[] #[]),(2,.map none)]) (cs:=#[.string ⟨#[114,111,119]⟩,.func (.func 82) #[] #[],.map none]) Y (AY (pl:=#[(0,1),(1,1),(2,1)]) US S3 (fun _=>by kernel_rfl) A6))<|Ze (EC (CX Cl (D:=fun _=>True)) Z1 (ER _) (fun _ _=>trivial) (trivial) Y Y Y Wo) ?_;rintro _ _ ⟨rfl,ql,pq,sj,cO,j3,rfl⟩;refine Zv (BK (vs:=[(0,.string ⟨#[114,111,119,115]⟩),(1,.func (.func 83) #[] #[]),(2,.map none)]) (cs:=#[.string ⟨#[114,111,119,115]⟩,.func (.func 83) #[] #[],.map none]) Y (AY (pl:=#[(0,1),(1,1),(2,1)]) US S3 (fun _=>by kernel_rfl) A6))<|Ze (EC (CX Cl (D:=fun _=>True)) Z1 cO (fun _ _=>trivial) (trivial) Y Y Y Wo) ?_;rintro _ _ ⟨rfl,qo,pz,sw,d9,j5,rfl⟩;refine Zv (BK (vs:=[(0,.string ⟨#[99,111,117,110,116]⟩),(1,.func (.func 83) #[] #[]),(2,.map none)]) (cs:=#[.string ⟨#[99,111,117,110,116]⟩,.func (.func 83) #[] #[],.map none]) Y (AY (pl:=#[(0,1),(1,1),(2,1)]) US S3 (fun _=>by kernel_rfl) A6))<|Ze (EC (CX Cl (D:=fun _=>True)) Z1 d9 (fun _ _=>trivial) (trivial) Y Y Y Wo) ?_;rintro _ _ ⟨rfl,qw,q9,sJ,ek,kv,rfl⟩;refine Zm Y<|Zv (BK (vs:=[(0,.string ⟨#[115,117,109]⟩),(1,.func (.func 84) #[] #[]),(2,.map (some g))]) (cs:=#[.string ⟨#[115,117,109]⟩,.func (.func 84) #[] #[],.map (some g)]) Y (AY (pl:=#[(0,1),(1,1),(2,1)]) US S3 (fun _=>by kernel_rfl) A6))<|Ze (EC (CX Cl (D:=fun _=>True)) Z1 ek (fun _ _=>trivial) (trivial) Y Y Y Wo) ?_;rintro _ _ ⟨rfl,qx,qa,sM,gm,l5,rfl⟩
 refine Zm Y<|Zv (BK (vs:=[(0,.string ⟨#[109,105,110]⟩),(1,.func (.func 84) #[] #[]),(2,.map (some g))]) (cs:=#[.string ⟨#[109,105,110]⟩,.func (.func 84) #[] #[],.map (some g)]) Y (AY (pl:=#[(0,1),(1,1),(2,1)]) US S3 (fun _=>by kernel_rfl) A6))<|Ze (EC (CX Cl (D:=fun _=>True)) Z1 gm (fun _ _=>trivial) (trivial) Y Y Y Wo) ?_;rintro _ _ ⟨rfl,qz,qb,sO,gq,l8,rfl⟩;refine Zm Y<|Zv (BK (vs:=[(0,.string ⟨#[109,97,120]⟩),(1,.func (.func 84) #[] #[]),(2,.map (some g))]) (cs:=#[.string ⟨#[109,97,120]⟩,.func (.func 84) #[] #[],.map (some g)]) Y (AY (pl:=#[(0,1),(1,1),(2,1)]) US S3 (fun _=>by kernel_rfl) A6))<|Ze (EC (CX Cl (D:=fun _=>True)) Z1 gq (fun _ _=>trivial) (trivial) Y Y Y Wo) ?_;rintro _ _ ⟨rfl,r9,qj,ve,gy,l9,rfl⟩;refine Ze (DR)<|AD fun m=>Ze (EC (CX Cl (D:=fun _=>True)) cT (ER _) (fun _ _=>trivial) (trivial) Y Y Y Wo) ?_;rintro _ _ ⟨rfl,p9,p8,pg,O,X,rfl⟩;refine Ze (EC (CX Cl (D:=fun _=>True)) cT O (fun _ _=>trivial) (trivial) Y Y Y Wo) ?_;rintro _ _ ⟨rfl,J,G,ax,U,Z,rfl⟩;refine Zm Y<|Zv (BK (vs:=[(0,.string ⟨#[106,111,105,110]⟩),(1,.func (.func 85) #[] #[]),(2,.map (some m))]) (cs:=#[.string ⟨#[106,111,105,110]⟩,.func (.func 85) #[] #[],.map (some m)]) Y (AY (pl:=#[(0,1),(1,1),(2,1)]) US S3 (fun _=>by kernel_rfl) A6))<|Ze (EC (CX Cl (D:=fun _=>True)) Z1 gy (fun _ _=>trivial) (trivial) Y Y Y Wo) ?_;rintro _ _ ⟨rfl,cu,bn,o9,ic,o8,rfl⟩;refine Zm Y<|AG Y<|Zn [0] ?_;refine Zx<|AJ<|AO V results35 Y (by
  refine ⟨mb,cu,bn,o9,g,I,B,af,m,J,G,ax,V,ic,fun p=>?_,K,U,⟨fun p=>?_,fun p=>?_⟩,V⟩
  · rw [o8,l9,l8,l5,kv,j5,j3]
    simp only [TW,D0,RM,SD,ij];constructor
    · rintro (rfl|⟨rfl|⟨rfl|⟨rfl|⟨rfl|⟨rfl|⟨rfl,-⟩,-⟩,-⟩,-⟩,-⟩,-⟩)<;>simp
    · rintro (h|h|h|h|h|h|h)<;>subst h<;>simp
  · rw [W];simp
  · rw [Z,X];simp only [RM,ij,SD]
    constructor
    · rintro (rfl|⟨rfl,-⟩)
      · exact .inl rfl
      · exact .inr rfl
    · rintro (rfl|rfl)
      · exact .inl rfl
      · exact .inr ⟨rfl,by simp⟩)
theorem aA{k:Int}(g:1<=k/\k<=7):∀(args:Array Value) (w:World),(callFunc (XJ k) args).run prog w= .ok (.enter (XJ k) args) w:=by
 unfold XJ;split
 · exact call82
 · split
   · exact call83
   · split
     · exact call85
     · exact call84
theorem ZZ(k:Int)(bq:Nat):Ba prog (XJ k) #[I5 bq] [] (fun r H'=>∃s,Row 108 r ((Gz k).map fun o=> .pointer (some ⟨bq,o,none⟩)) s/\H'=[s]):=by
 unfold XJ Gz;split
 · exact jm bq
 · split
   · exact IJ bq
   · split
     · exact fD bq
     · exact nT bq
theorem Vw(b:Nat)(v:Value)(l:List UInt8)(G:List A9)(m:Row 5 v (l.map u8v) G)(h0:0<l.length)(I:l.length<=1000000):Ba prog 40 #[I5 b] [[(b,.cells #[I5 b,v] 99 (0,0))],G] (fun r H'=>r= .string (str l)/\H'=[[(b,.cells #[I5 b,v] 99 (0,0))]]):=by
 rcases m with⟨_,B,_⟩|⟨g,cap,cur,z,rfl,rfl,hle,hcm,hcs,htk,hfr⟩
 · simp at B;subst B;simp at h0
 · rw [B2]at hle htk⊢
   exact Nw b g cap _ l cur z h0 A1 A1 htk
theorem RO(b:Nat)(v:Value)(l:List UInt8)(c:UInt8)(G:List A9)(g:Row 5 v (l.map u8v) G)(hb:l.length<=1099511627776):Ba prog 38 #[I5 b,.int .u8 (c.toNat:Int)] [[(b,.cells #[I5 b,v] 99 (0,0))],G] (fun r H'=>∃I B K,Row 5 I ((l++[c]).map u8v) B/\r=K/\H'=[[(b,.cells #[I5 b,I] 99 (0,0))],B]):=by
 have J:=mL;obtain ⟨gv,X,rfl⟩:=g.form;refine Se func38 ntmps38 [0,1] ?_;intro u R;refine A0<|A3 Y<|A0<|Zm Y<|Zc [_] Y call86 Y V (M4 b _) ?_;rintro _ _ ⟨_,⟨rfl,rfl⟩,rfl⟩;refine A4<|A0<|Zm Y<|Zm Y<|Zp Y V<|Zh 1 S2 V rfl N6 Y<|Zl S6 Y ?_;refine Zm Y<|Ze (Ah (vs:=[_]) (cs:=[_]) HA Hv S4 Y V rfl V rfl V)<|AD fun U=>Ze (EQ (by_:=1) (news:=[_]) HA (V:Tryz.prog.info? 5=some Tryz.t5) V rfl V rfl Y g Y Wo Wh AM V Fm AN (by(rw [B2];omega)) (by(rw [B2];omega))) ?_;rintro _ _ ⟨O,m,rfl⟩;obtain ⟨Z,W,rfl⟩:=m.form;refine Zp Y V<|Zh 1 S2 V rfl N6 Y<|Xe (Zs N6 Y Y V) ?_;refine Z0<|Zn [] ?_;refine Zx<|A0<|A3 Y<|AJ<|AO rfl results38 Y (by exact ⟨_,O,_,(by rw [BW];exact m),rfl,rfl⟩)
theorem K3(b:Nat)(v:Value)(l x:List UInt8)(I:List A9)(g:Row 5 v (l.map u8v) I)(h0:0<x.length)(Z:l.length+x.length<=1000000):Ba prog 37 #[.string (str x),I5 b] [[(b,.cells #[I5 b,v] 99 (0,0))],I] (fun r H'=>∃J m,Row 5 J ((SL l x).map u8v) m/\H'=[[(b,.cells #[I5 b,J] 99 (0,0))],m]):=by
 refine Se func37 ntmps37 [0,1] ?_;intro u R;refine A0<|Zc [_,_] Y call38 Y V (RO b v l 32 I g A1) ?_;rintro _ _ ⟨_,⟨W,s2,K,B,rfl,rfl⟩,rfl⟩;refine A4<|Zg<|Zm Y<|Zc [_,_] Y call36 Y V (PR b W (l++[32]) x s2 B h0 HQ) ?_;rintro _ _ ⟨_,⟨X,U,O,G,rfl,rfl⟩,rfl⟩;refine Z0<|Cv rfl results37 (by exact ⟨X,U,by unfold SL;rw [show l++32::x=l++[32]++x by simp];exact G,rfl⟩)
theorem NV(q:QM)(hq:BI q)(Tp:TypeId)(zp:Nat×Nat):BJ prog 11 #[.agg q.A17] [[(1,.cells (Lib.pow10Tab.map fun z=>Value.int .u64 z).toArray Tp zp)]] (.tuple #[.string (str (Cr q)),I4 0]):=by
 have l5:=mL;have hk:1<=q.kd/\q.kd<=7:=by obtain ⟨_,_,_,h⟩:=hq;omega
 have B:=vI hq;have kv:=xE q.kd
 have gm:=xD q.kd;have gq:=Xt q.kd
 refine Se func11 ntmps11 [0] ?_;intro u R;refine A0<|Ze (Bx #[_,_,_,_,_,_,_])<|AD fun bq=>Za Y<|A3 Y<|Zq<|A0<|Zo Wh (AA (cs:=q.A17) Dg C7 Y Wn (by exact BN V)) ?_;refine Xr [_] Y call34 Y V (JW q) ?_;rw [DA hq];refine Zv (Br Y)<|A4<|AV Y (fun hb=>by cases hb)<|fun hb=>AC<|Zx<|Zq<|Az (n:=6) (0::0::2::7::0::31::[]) 49 A6 A6 V<|A2 1 V (AB (off:=0) C6 V rfl A5 Y)<|B3 2 V AE Y ?_;refine Zz (l:=[0,4])<|B1 [true] [(2,(_,_))] V rfl (Zw [] Y call35 Y V (TV)) ?_ Bv ?_
 ·
  rintro _ _ ⟨_,⟨mf,es,ck,lm,g1,e1,c1,l1,g7,e7,c7,l7,rfl,hm,hp,h1,h7,hG,rfl⟩,rfl⟩;refine ⟨Zk (AZ),?_⟩;have af:=ZY hp hm.keys hk
  refine E6 3 rfl Wh (Dj (CX Cl (D:=fun _=>True)) Z1 US hm (fun _ _=>trivial) (trivial) (by rw [af];first|done|rfl) Y Y) ?_;refine Yz 4 0 31 [3,2] [true,true] [(3,(_,_)),(2,(_,_))] V Y V rfl V rfl (FC US (cs:=#[.string ⟨#[]⟩,.nilFunc,.map none]) A6)<|AD fun bf=>B5<|Yw 5 63 rfl (BM sizeOf93 Y Y (by intro u hu;rcases (by simpa using hu:u=_\/u=_\/u=_)with rfl|rfl|rfl<;>first|rfl|exact Vl _ _ _) Wu (by exact (rfl:_=(#[.string (str (Mq q.kd)),.func (.func (XJ q.kd)) #[] #[],NF q.kd g1 g7]:Array Value))) E7 AN (by exact BA _))<|CM<|Ai<|Zx<|A0<|Ze (Al zeroValue99 #[_,_])<|AD fun b=>Z0<|Zn [1,4,5] ?_;refine Zx<|Zq<|BV<|Zg<|Zh 0 S3 V rfl F0 Y<|Zl HC Y ?_;refine Zc [_,_] Y call36 Y V (JN b (.slice none 0 0) [] (Mq q.kd) [] (Fu _) gq.1 HQ) ?_;rintro _ _ ⟨_,⟨v1,ek,j3,cu,rfl,rfl⟩,rfl⟩;refine A4<|A0<|Zv (Bg (vs:=[]) (us:=[_]) Y Y)<|A3 Y<|Zq<|A0<|Zh 1 S3 V rfl sizeOf90 Y<|Zl isAgg90 Y ?_;refine Zc [_] Y (aA hk) Y V (ZZ q.kd bq) ?_;rintro _ _ ⟨_,⟨sf,d9,rfl⟩,rfl⟩;rcases d9 with⟨_,h0,_⟩|⟨gf,cf,cur,zf,rfl,rfl,hle,hcm,hcs,htk,hfr⟩
  · exfalso;have h0:=congrArg List.length h0;rw [B2]at h0;simp at h0;simp [h0]at gm
  simp only [B2]at hle htk;simp only [B2];refine Zv (Ab PJ Y)<|Zm Y<|A4<|AP<|Zb [26,4,5,6,24,25] ?_;refine BB (e0:=[(26,_)]) (fun m e H=>∃(i:Nat) (Z:Value) (X:List A9),m=(Gz q.kd).length -i/\(i<=(Gz q.kd).length/\Row 5 Z ((upP q i).map u8v) X)/\e=[(26,I4 (i:Int))]/\H=[[(b,.cells #[I5 b,Z] 99 (0,0))],X]) (by exact ⟨0,v1,ek,V,⟨C0 _,cu⟩,V,V⟩) Wp ?_;rintro _ _ _ ⟨i,Z,X,rfl,⟨hi,I⟩,rfl,rfl⟩;refine A0<|Zv (Au Y Y)<|A4<|Zq<|Av Y (fun bn=>?_) (fun bn=>?_)
  ·
   have ic:=KR B i;obtain ⟨o,ho⟩:∃o,(Gz q.kd)[i]?=some o:=⟨_,B4 A1⟩;have W:(Gz q.kd).getD i 0=o:=by rw [Lw,ho];rfl
   have U:=tC q.kd o (DG ho);have O:=tF q.kd o (DG ho)
   have ax:cur[i]?=some (.pointer (some ⟨bq,o,none⟩)):=by
    have h:((Gz q.kd).map fun o=>(.pointer (some ⟨bq,o,none⟩):Value))[i]?=some (.pointer (some ⟨bq,o,none⟩)):=by rw [DH,ho];rfl
    rw [<-htk,H3,AK A1]at h;simpa using h
   have gy:=Oz q.kd i;have K:=TL _ (B o)
   refine AC<|Zx<|Zq<|AP<|A0<|Zm Y<|BX (BS PJ Sx Y Y de)<|Zl isAgg108 Y (hv:=by exact ax) ?_;refine Za Y<|A3 Y<|Zq<|A0<|Zh 2 S3 V rfl sizeOf91 Y<|Zl isAgg91 Y ?_;refine Zm Y<|CO (cs:=[(g1,.map e1 c1),(g7,.map e7 c7)]) B0 (qL hk h1 h7 hG (i:=i) Y Y) V rfl ?_;refine Zm Y<|Zd Y V<|Zd Y V<|Za Y<|AG Y<|Zn [4,5,6,8,9,10,24,25,26] ?_;refine Zx<|A0<|Zm Y<|A4<|Av Y (fun g=>?_) (fun g=>?_)
   ·
    refine Zg<|Zm Y<|Zm Y<|Zc [_] Y (call37) Y V (K3 b Z (upP q i) (Ih q.kd i) X I (n5.2 g) A1) ?_;rintro _ _ ⟨_,⟨v4,j5,cO,rfl⟩,rfl⟩;refine A4<|Zg<|Zm Y<|Zm Y<|Zp Y V<|Zl AE Y (hv:=by exact iN q O U) ?_;refine Xr [_] Y call39 Y V (Md (Jp q o) (B o) Tp zp) ?_;refine Zc [_] Y (call37) Y V (K3 b _ (Lp q (upP q i) i) (Lib.itoa (Jp q o)) _ (by unfold Lp;(rw [AH g];exact cO)) K.1 (by have:=Om q (upP q i) i;omega)) ?_;rintro _ _ ⟨_,⟨v5,J,G,rfl⟩,rfl⟩;rw [show SL (Lp q (upP q i) i) (Lib.itoa (Jp q o))=upP q (i+1) from by rw [O9,W]]at G;refine Z0<|A8<|Zx<|Zg<|Ya (n:=1) Y Y<|Zm Y<|Z0<|Zn [26,4,5,6,24,25] ?_;refine Aa (e':=[(26,_)]) (by exact ⟨i+1,v5,J,V,⟨by omega,G⟩,V,V⟩)
   refine AC<|Zx<|Zg<|Zm Y<|Zm Y<|Zp Y V<|Zl AE Y (hv:=by exact iN q O U) ?_;refine Xr [_] Y call39 Y V (Md (Jp q o) (B o) Tp zp) ?_;refine Zc [_] Y (call37) Y V (K3 b _ (Lp q (upP q i) i) (Lib.itoa (Jp q o)) _ (by unfold Lp;(rw [AK (HS.1 g)];exact I)) K.1 (by have:=Om q (upP q i) i;omega)) ?_;rintro _ _ ⟨_,⟨v5,J,G,rfl⟩,rfl⟩;rw [show SL (Lp q (upP q i) i) (Lib.itoa (Jp q o))=upP q (i+1) from by rw [O9,W]]at G;refine Z0<|A8<|Zx<|Zg<|Ya (n:=1) Y Y<|Zm Y<|Z0<|Zn [26,4,5,6,24,25] ?_;refine Aa (e':=[(26,_)]) (by exact ⟨i+1,v5,J,V,⟨by omega,G⟩,V,V⟩)
  obtain rfl:i=(Gz q.kd).length:=by omega
  refine Ay<|Zt<|Zt<|AR<|Zx<|A0<|Zc [_] Y call40 Y V (Vw b Z _ X I (KR B _).1 (by have:=KR B (Gz q.kd).length;omega)) ?_;rintro _ _ ⟨_,⟨rfl,rfl⟩,rfl⟩;refine Za Y<|A3 Y<|AJ<|Cu V results11 Y Y (by exact ⟨V,V⟩)
 refine B1 [true] [(2,(_,_))] V rfl (FC US (cs:=#[.string ⟨#[]⟩,.nilFunc,.map none]) A6) ?_ (fun _ _ h=>h.elim) Ag;rintro _ _ ⟨bf,rfl,rfl⟩;refine B5<|Zz (l:=[0])<|B1 [true] [(2,(_,_))] V rfl (Zw [] Y call35 Y V (TV)) ?_ Bv Ag;rintro _ _ ⟨_,⟨mf,es,ck,lm,g1,e1,c1,l1,g7,e7,c7,l7,rfl,hm,hp,h1,h7,hG,rfl⟩,rfl⟩;refine ⟨Zk (AZ),?_⟩;have af:=ZY hp hm.keys hk
 refine E6 3 rfl Wh (Dj (CX Cl (D:=fun _=>True)) Z1 US hm (fun _ _=>trivial) (trivial) (by rw [af];first|done|rfl) Y Y) ?_;refine Yw 5 63 rfl (BM sizeOf93 Y Y (by intro u hu;rcases (by simpa using hu:u=_\/u=_\/u=_)with rfl|rfl|rfl<;>first|rfl|exact Vl _ _ _) Wu (by exact (rfl:_=(#[.string (str (Mq q.kd)),.func (.func (XJ q.kd)) #[] #[],NF q.kd g1 g7]:Array Value))) E7 AN (by exact BA _))<|CM<|Ai<|Zx<|A0<|Ze (Al zeroValue99 #[_,_])<|AD fun b=>Z0<|Zn [1,4,5] ?_;refine Zx<|Zq<|BV<|Zg<|Zh 0 S3 V rfl F0 Y<|Zl HC Y ?_;refine Zc [_,_] Y call36 Y V (JN b (.slice none 0 0) [] (Mq q.kd) [] (Fu _) gq.1 HQ) ?_;rintro _ _ ⟨_,⟨v1,ek,j3,cu,rfl,rfl⟩,rfl⟩;refine A4<|A0<|Zv (Bg (vs:=[]) (us:=[_]) Y Y)<|A3 Y<|Zq<|A0<|Zh 1 S3 V rfl sizeOf90 Y<|Zl isAgg90 Y ?_;refine Zc [_] Y (aA hk) Y V (ZZ q.kd bq) ?_;rintro _ _ ⟨_,⟨sf,d9,rfl⟩,rfl⟩;rcases d9 with⟨_,h0,_⟩|⟨gf,cf,cur,zf,rfl,rfl,hle,hcm,hcs,htk,hfr⟩
 · exfalso;have h0:=congrArg List.length h0;rw [B2]at h0;simp at h0;simp [h0]at gm
 simp only [B2]at hle htk;simp only [B2];refine Zv (Ab PJ Y)<|Zm Y<|A4<|AP<|Zb [26,4,5,6,24,25] ?_;refine BB (e0:=[(26,_)]) (fun m e H=>∃(i:Nat) (Z:Value) (X:List A9),m=(Gz q.kd).length -i/\(i<=(Gz q.kd).length/\Row 5 Z ((upP q i).map u8v) X)/\e=[(26,I4 (i:Int))]/\H=[[(b,.cells #[I5 b,Z] 99 (0,0))],X]) (by exact ⟨0,v1,ek,V,⟨C0 _,cu⟩,V,V⟩) Wp ?_;rintro _ _ _ ⟨i,Z,X,rfl,⟨hi,I⟩,rfl,rfl⟩;refine A0<|Zv (Au Y Y)<|A4<|Zq<|Av Y (fun bn=>?_) (fun bn=>?_)
 ·
  have ic:=KR B i;obtain ⟨o,ho⟩:∃o,(Gz q.kd)[i]?=some o:=⟨_,B4 A1⟩;have W:(Gz q.kd).getD i 0=o:=by rw [Lw,ho];rfl
  have U:=tC q.kd o (DG ho);have O:=tF q.kd o (DG ho)
  have ax:cur[i]?=some (.pointer (some ⟨bq,o,none⟩)):=by
   have h:((Gz q.kd).map fun o=>(.pointer (some ⟨bq,o,none⟩):Value))[i]?=some (.pointer (some ⟨bq,o,none⟩)):=by rw [DH,ho];rfl
   rw [<-htk,H3,AK A1]at h;simpa using h
  have gy:=Oz q.kd i;have K:=TL _ (B o)
  refine AC<|Zx<|Zq<|AP<|A0<|Zm Y<|BX (BS PJ Sx Y Y de)<|Zl isAgg108 Y (hv:=by exact ax) ?_;refine Za Y<|A3 Y<|Zq<|A0<|Zh 2 S3 V rfl sizeOf91 Y<|Zl isAgg91 Y ?_;refine Zm Y<|CO (cs:=[(g1,.map e1 c1),(g7,.map e7 c7)]) B0 (qL hk h1 h7 hG (i:=i) Y Y) V rfl ?_;refine Zm Y<|Zd Y V<|Zd Y V<|Za Y<|AG Y<|Zn [4,5,6,8,9,10,24,25,26] ?_;refine Zx<|A0<|Zm Y<|A4<|Av Y (fun g=>?_) (fun g=>?_)
  ·
   refine Zg<|Zm Y<|Zm Y<|Zc [_] Y (call37) Y V (K3 b Z (upP q i) (Ih q.kd i) X I (n5.2 g) A1) ?_;rintro _ _ ⟨_,⟨v4,j5,cO,rfl⟩,rfl⟩;refine A4<|Zg<|Zm Y<|Zm Y<|Zp Y V<|Zl AE Y (hv:=by exact iN q O U) ?_;refine Xr [_] Y call39 Y V (Md (Jp q o) (B o) Tp zp) ?_;refine Zc [_] Y (call37) Y V (K3 b _ (Lp q (upP q i) i) (Lib.itoa (Jp q o)) _ (by unfold Lp;(rw [AH g];exact cO)) K.1 (by have:=Om q (upP q i) i;omega)) ?_;rintro _ _ ⟨_,⟨v5,J,G,rfl⟩,rfl⟩;rw [show SL (Lp q (upP q i) i) (Lib.itoa (Jp q o))=upP q (i+1) from by rw [O9,W]]at G;refine Z0<|A8<|Zx<|Zg<|Ya (n:=1) Y Y<|Zm Y<|Z0<|Zn [26,4,5,6,24,25] ?_;refine Aa (e':=[(26,_)]) (by exact ⟨i+1,v5,J,V,⟨by omega,G⟩,V,V⟩)
  refine AC<|Zx<|Zg<|Zm Y<|Zm Y<|Zp Y V<|Zl AE Y (hv:=by exact iN q O U) ?_;refine Xr [_] Y call39 Y V (Md (Jp q o) (B o) Tp zp) ?_;refine Zc [_] Y (call37) Y V (K3 b _ (Lp q (upP q i) i) (Lib.itoa (Jp q o)) _ (by unfold Lp;(rw [AK (HS.1 g)];exact I)) K.1 (by have:=Om q (upP q i) i;omega)) ?_;rintro _ _ ⟨_,⟨v5,J,G,rfl⟩,rfl⟩;rw [show SL (Lp q (upP q i) i) (Lib.itoa (Jp q o))=upP q (i+1) from by rw [O9,W]]at G;refine Z0<|A8<|Zx<|Zg<|Ya (n:=1) Y Y<|Zm Y<|Z0<|Zn [26,4,5,6,24,25] ?_;refine Aa (e':=[(26,_)]) (by exact ⟨i+1,v5,J,V,⟨by omega,G⟩,V,V⟩)
 obtain rfl:i=(Gz q.kd).length:=by omega
 refine Ay<|Zt<|Zt<|AR<|Zx<|A0<|Zc [_] Y call40 Y V (Vw b Z _ X I (KR B _).1 (by have:=KR B (Gz q.kd).length;omega)) ?_;rintro _ _ ⟨_,⟨rfl,rfl⟩,rfl⟩;refine Za Y<|A3 Y<|AJ<|Cu V results11 Y Y (by exact ⟨V,V⟩)
end Go.Proofs.YteaiajghbkenoaaGreatDoor
namespace Go.Proofs.YteaiajghbkenoaaGreatDoor
open Go.Proofs.Tryz
open Go Go.RowKit Gw
set_option maxRecDepth 100000
attribute [local irreducible] Gw.At Gw.Nx Gw.Ops
open Go.Sort
theorem tY(xs:List ByteArray):xs.map Value.string=(xs.map fun x=>x.data.toList).map encStr:=by
 rw [J0];rfl
theorem u6(ls:List (List UInt8)):ls.map encStr=(ls.map fun l=>(⟨l.toArray⟩:ByteArray)).map Value.string:=by
 rw [J0];rfl
theorem Rm{v:Value}{zs:List ByteArray}{s:List A9}(hr:Row 9 v (zs.map Value.string) s)(hl:zs.length<=1000000):Ba prog 58 #[v] [s] (fun r H'=>∃(zs':List ByteArray) (s':List A9),r= .tuple #[]/\zs'.Perm zs/\(zs'.Pairwise fun x y=>x.data.toList<=y.data.toList)/\Row 9 v (zs'.map Value.string) s'/\H'=[s']):=fun u R w hs=>by
 obtain ⟨ls,m⟩:∃ls,ls=zs.map fun x=>x.data.toList:=⟨_,rfl⟩;have I:ls.length=zs.length:=by rw [m,B2]
 obtain ⟨G,B⟩:∃G,G=ls.mergeSort fun x y=>decide (x<=y):=⟨_,rfl⟩;have J:G.Perm ls:=by rw [B];exact nB _ _
 have W:G.Pairwise fun x y=>x<=y:=by
  have h:=List.pairwise_mergeSort (le:=fun x y:List UInt8=>decide (x<=y)) (fun a b c h1 h2=>by simp only [G2]at*;exact List.le_trans h1 h2) (fun a b=>by simp only [RW,G2];exact List.le_total a b) ls;rw [B];simpa only [G2]using h
 have O:(G.map fun l=>(⟨l.toArray⟩:ByteArray)).Perm zs:=by
  have h:=J.map fun l=>(⟨l.toArray⟩:ByteArray);rw [m,J0]at h;have e:zs.map ((fun l:List UInt8=>(⟨l.toArray⟩:ByteArray))∘fun x=>x.data.toList)=zs:=by
   conv=>rhs;rw [<-List.map_id zs]
   rfl
  rwa [e]at h
 have U:(G.map fun l=>(⟨l.toArray⟩:ByteArray)).Pairwise fun x y=>x.data.toList<=y.data.toList:=by rw [T7];exact W
 rcases hr with⟨rfl,h0,rfl⟩|⟨g,cap,cur,z,rfl,rfl,hle,hcm,hcs,htk,hfr⟩
 · have hx:zs=[]:=by simpa using h0
   subst hx;refine (Tryz.slices_Sort_string_none none 0 w).mono ?_;rintro e w' ⟨rfl,rfl⟩;exact .inl ⟨_,[[]],V,⟨[],[],V,.refl _,.nil,by simp [Fu],V⟩,hs⟩
 · rw [tY,<-m]at htk
   rw [B2]at hle⊢;rw [B2]at htk;have K:Sat u ([(g,.cells cur 9 z)]::R) w:=by simpa using hs
   have Z:=K.get (g,.cells cur 9 z) B0;have hH:=TT (zs:=ls) Z A1 hfr htk
   have hc:=Tryz.slices_Sort_string g 0 cap ls w hH (HG.1 Z).1 A1;rw [I]at hc;refine hc.mono ?_;rintro e w' ⟨rfl,n,os,rfl⟩;rw [<-B];have X:=J.length_eq
   refine .inl ⟨_,[[(g,.cells (putCells encStr 0 G.toArray cur) 9 z)]],V,⟨_,_,V,O,U,?_,V⟩,by simpa using K.sorted (n:=n) _ os⟩;refine .inr ⟨g,cap,_,z,by rw [B2,B2,X,I],rfl,by rw [B2,B2];omega,hcm,by rw [MQ];exact hcs,?_,by rw [MQ];exact hfr⟩;rw [<-u6,B2];exact YP _ _ A1
theorem eu(mi:Nat):Ba prog 64 #[.map (some mi)] [] (fun r H'=>∃b,r= .func (.func 122) #[] #[I5 b]/\H'=[[(b,.cells #[.map (some mi)] 118 (0,0))]]):=by
 refine Se func64 ntmps64 [0] ?_;intro u R;refine A0<|Ze (Bx #[_])<|AD fun b=>A3 Y<|A0<|Zv (Bg (vs:=[]) (us:=[_]) Y Y)<|A3 Y<|AJ<|AO V results64 Y (by exact ⟨b,V,V⟩)
variable{es:Array MapEntry}{ck:Nat}{lm:List (ByteArray×Value)}
theorem fA(U:Cj (fun n:ByteArray=>Value.string n) es ck lm)(b mi:Nat):KM prog 122 #[I5 b] [[(b,.cells #[.map (some mi)] 118 (0,0))]] (fun _ s=>(mi,Obj.map es ck)∈s) (fun x:ByteArray=>#[.string x]) (Mj lm) (fun ys=>ys.Perm (lm.map (·.1))):=by
 intro l J W hy s B;refine Se func122 ntmps122 [0,1] ?_;intro u R;refine A0<|Zl NO Y ?_;refine Ze (LB Pc Y (F8 Wo (W _ s B)))<|AD fun ib=>A4<|AP<|Zb [0,5] ?_;refine BB (e0:=[]) (fun m e H=>∃(js:List Nat) (seen:Array Nat) (s:List A9),m=lm.length -js.length/\(Ij es js seen/\J ((DN lm js).map (·.1)) s)/\e=[]/\H=[[(ib,.mapIter (some mi) ck seen ck)],s]) (by exact ⟨[],#[],s,V,⟨KC _,B⟩,V,V⟩) Wp ?_;rintro _ _ _ ⟨js,seen,s,rfl,⟨I,B⟩,rfl,rfl⟩;have X:=F3 es.size js I.nodup I.lt
 rw [U.size]at X;refine A0<|Ze (NL U I Y Wo (F8 Wo (W _ s B))) ?_;rintro _ _ af;rcases af with⟨G,rfl,rfl⟩|⟨jn,pn,seen2,hpn,hjn,hi2,rfl,rfl⟩
 ·
  refine Zd Y V<|A4<|Zq<|AV Y (fun g=>by cases g)<|fun g=>Ay<|Zt<|Zt<|AR<|Cv V results122 (by exact ⟨_,s,G.map _,V,B⟩)
 refine Zd Y V<|A4<|Zq<|AV Y (fun g=>?_) (fun g=>?_)
 ·
  have O:=F3 es.size (js++[jn]) hi2.nodup hi2.lt;rw [U.size,B7,E0]at O;have cu:(js++[jn]).length=js.length+1:=by rw [B7];rfl
  have ax:Mj lm ((DN lm js).map (·.1)++[pn.1]):=by
   have h:=Sk (l:=lm) hi2.nodup (fun j hj=>by rw [<-U.size];exact hi2.lt j hj);rw [Fv lm js hpn,BW]at h;exact h
  have bn:=hy ((DN lm js).map (·.1)) pn.1 s ax B;refine AC<|Zx<|AP<|Zq<|Zg ?_;have Z:=W _ s B
  refine CO (cs:=[(ib,.mapIter (some mi) ck seen2 ck),(mi,.map es ck)]) (by simp [Z]) (JA U hi2 hpn Y) V rfl ?_;refine Zd Y V<|A3 Y<|A0<|Zm Y<|Zm Y<|Ze (GR (vs:=[_]) Y Y (bn) Wp) ?_;rintro _ _ ⟨_,⟨s',rfl,rfl,K⟩,rfl⟩;rw [show(DN lm js).map (·.1)++[pn.1]=(DN lm (js++[jn])).map (·.1) by rw [Fv lm js hpn,BW];rfl]at K;refine Zv (Br Y)<|A4<|AV Y (fun g=>by cases g)<|fun g=>AC<|A8<|Zn [0,5] ?_;refine Aa (e':=[]) (by exact ⟨js++[jn],seen2,s',V,⟨hi2,K⟩,V,V⟩)
 cases g
variable{M:List A9}
theorem R8(hm:Cj (fun n:ByteArray=>Value.string n) es ck lm)(hn:lm.length<=1000000)(b mi:Nat)(O:(mi,Obj.map es ck)∈M):Ba prog 201 #[.slice none 0 0,.func (.func 122) #[] #[I5 b]] [[(b,.cells #[.map (some mi)] 118 (0,0))],M] (fun r H'=>∃(zs:List ByteArray) (s':List A9),zs.Perm (lm.map (·.1))/\Row 9 r (zs.map Value.string) s'/\H'=[M,s']):=by
 have af:=mL;refine DK func201 V ntmps201 V ?_;intro u R;refine Zb [0,1] ?_;refine A0<|Ze (Bx #[_])<|AD fun X=>A3 Y<|Zq<|A0<|Zm Y<|A4<|AP<|Zb [2,6] ?_;refine BV<|Iy (H0:=_) (R:=_) (I:=(fun(pre:List ByteArray) H=>∃m s2,H=[[(X,.cells #[m] 45 (0,0))],s2,M]/\Row 9 m (pre.map Value.string) s2)) (E:=fun x e Hn=>e=[(5,.string x),(7,.string x)]/\Hn=[]) rfl Y call122 (fA hm b mi) (fun pre H1 c d h=>by obtain ⟨m,s2,rfl,_⟩:=h;simp [O]) Y rfl Wp (⟨_,[],rfl,Fu _⟩) ?ha_2 ?hbd_2 ?hk_2
 case ha_2=>
  intro _ x _ _;refine Zg<|AG Y<|Li (e:=[(5,_),(7,_)]) (Hn:=[]) ?_;exact ⟨V,V⟩
 case hbd_2=>
  intro l pre x u e9 W H1 R1 r9 U Z G;obtain ⟨rfl,rfl⟩:=G;obtain ⟨m,s2,rfl,B⟩:=Z;have ax:=U.len
  obtain ⟨gv,cv,rfl⟩:=B.form;refine AP<|Zg<|Zl KB Y ?_;refine Zm Y<|Ze (Ah (vs:=[_]) (cs:=[_]) CN F0 HM Y V rfl V rfl V)<|AD fun b2=>Ze (EQ (by_:=16) (news:=[_]) CN (V:Tryz.prog.info? 9=some Tryz.t9) V rfl V rfl Y B Y Wo Wh AM V Fm AN (by(simp only [B2];omega)) (by(simp only [B2];omega))) ?_;rintro _ _ ⟨sq,g,rfl⟩;obtain ⟨gq,cq,rfl⟩:=g.form;refine Xe (Zs HF Y Y V) ?_;refine Z0<|A8<|Ez rfl (by exact ⟨_,_,rfl,by rw [BW];exact g⟩)
 intro D1 ys H2 K J;obtain ⟨m,s2,rfl,B⟩:=J;refine Zn [2] ?_;refine A8<|Zx<|A0<|Zl KB Y ?_;refine A3 Y<|AJ<|GI V (dF results201 Y) Wo (by exact ⟨ys,s2,K,B,V⟩)
theorem UX(m:Cj (fun n:ByteArray=>Value.string n) es ck lm)(B:lm.length<=1000000)(b mi:Nat)(g:(mi,Obj.map es ck)∈M):Ba prog 121 #[.func (.func 122) #[] #[I5 b]] [[(b,.cells #[.map (some mi)] 118 (0,0))],M] (fun r H'=>∃(zs:List ByteArray) (s':List A9),zs.Perm (lm.map (·.1))/\Row 9 r (zs.map Value.string) s'/\H'=[M,s']):=by
 refine Se func121 ntmps121 [0] ?_;intro u R;refine A0<|A3 Y<|A0<|Zm Y<|Zc [_,_] Y call201 Y V (R8 m B b mi g) ?_;rintro _ _ ⟨_,⟨zs,s2,G,I,rfl⟩,rfl⟩;refine A3 Y<|AJ<|AO V results121 Y (by exact ⟨zs,s2,G,I,V⟩)
theorem WW(O:Cj (fun n:ByteArray=>Value.string n) es ck lm)(U:lm.length<=1000000)(b mi:Nat)(g:(mi,Obj.map es ck)∈M):Ba prog 63 #[.func (.func 122) #[] #[I5 b]] [[(b,.cells #[.map (some mi)] 118 (0,0))],M] (fun r H'=>∃(zs:List ByteArray) (s':List A9),zs.Perm (lm.map (·.1))/\(zs.Pairwise fun x y=>x.data.toList<=y.data.toList)/\Row 9 r (zs.map Value.string) s'/\H'=[M,s']):=by
 refine Se func63 ntmps63 [0] ?_;intro u R;refine A0<|A3 Y<|A0<|Zm Y<|Zc [_] Y call121 Y V (UX O U b mi g) ?_;rintro _ _ ⟨_,⟨zs,s2,K,W,rfl⟩,rfl⟩;have I:=K.length_eq
 rw [B2]at I;refine A3 Y<|A0<|Zm Y<|Zc [_] Y call58 Y V (Rm W A1) ?_;rintro _ _ ⟨_,⟨J,X,rfl,m,G,B,rfl⟩,rfl⟩;refine A4<|A0<|Zm Y<|A3 Y<|AJ<|AO V results63 Y (by exact ⟨J,X,m.trans K,G,B,V⟩)
end Go.Proofs.YteaiajghbkenoaaGreatDoor
namespace Go.Proofs.YteaiajghbkenoaaGreatDoor
open Go.Proofs.Tryz
open Go Go.RowKit Gw
set_option maxRecDepth 100000
attribute [local irreducible] Gw.At Gw.Nx Gw.Ops
structure Bt where
 b:Nat
 key:ByteArray
 te:Int
 sz:Int
structure Bj where
 r:Nat
 E:List Bt
 nx:Nat->Value
 bf:Nat->Value
 cap:Int
 sh:Value
 us:Value
 mv:Value
 fr:Int
def DW(f:Nat->Value)(a:Nat)(v:Value):Nat->Value:=fun x=>if x=a then v else f x
theorem Hz(f:Nat->Value)(a:Nat)(v:Value):DW f a v a=v:=AK rfl
variable{x:Nat}
theorem EZ(f:Nat->Value){a:Nat}(v:Value)(h:x≠a):DW f a v x=f x:=AH h
def Bt.ch(nx bf:Nat->Value)(e:Bt):A9:=(e.b,.cells #[.string e.key,I4 e.te,I4 e.sz,bf e.b,nx e.b] 178 (0,0))
def Bj.S(z:Bj):List A9:=(z.r,.cells #[.string ⟨#[]⟩,I4 0,I4 0,z.bf z.r,z.nx z.r,I4 z.cap,z.sh,z.us,z.mv,I4 z.fr] 182 (0,0))::z.E.map (Bt.ch z.nx z.bf)
def Bj.bl(z:Bj):List Nat:=z.r::z.E.map (·.b)
theorem Bj.keys(z:Bj):z.S.map (·.1)=z.bl:=by
 unfold Bj.S Bj.bl;rw [DO,J0];rfl
theorem Bj.root(z:Bj):(z.r,Obj.cells #[.string ⟨#[]⟩,I4 0,I4 0,z.bf z.r,z.nx z.r,I4 z.cap,z.sh,z.us,z.mv,I4 z.fr] 182 (0,0))∈z.S:=Dd ..
variable{e:Bt}
theorem Bj.node(z:Bj)(g:e∈z.E):(e.b,Obj.cells #[.string e.key,I4 e.te,I4 e.sz,z.bf e.b,z.nx e.b] 178 (0,0))∈z.S:=E3 _ (DM (f:=Bt.ch z.nx z.bf) g)
theorem G9{α β:Type}{f:α->β}:∀{l:List α},(l.map f).Nodup->∀{x y:α},x∈l->y∈l->f x=f y->x=y
 |a::l,hn,x,y,hx,hy,e=>by
  rw [DO,HW]at hn;rcases D0.1 hx with h1|h1
  · rcases D0.1 hy with h2|h2
    · rw [h1,h2]
    · exact absurd (by rw [<-h1,e];exact DM h2) hn.1
  · rcases D0.1 hy with h2|h2
    · exact absurd (by rw [<-h2,<-e];exact DM h1) hn.1
    · exact G9 hn.2 h1 h2 e
theorem Bj.upd(z:Bj)(K:z.bl.Nodup){a:Nat}(B:a∈z.bl):∃c T,(a,Obj.cells c T (0,0))∈z.S/\(c.size=5\/c.size=10)/\∀v,IB a (.cells (c.setIfInBounds 4 v) T (0,0)) z.S=({z with nx:=DW z.nx a v}:Bj).S/\IB a (.cells (c.setIfInBounds 3 v) T (0,0)) z.S=({z with bf:=DW z.bf a v}:Bj).S:=by
 have g:(z.r::z.E.map (·.b)).Nodup:=K;rw [HW]at g;rcases D0.1 B with rfl|B
 · refine ⟨_,_,z.root,.inr rfl,fun v=>?_⟩
   have I:∀e∈z.E,e.b≠z.r:=fun e m h=>g.1 (h▸DM m);constructor<;>
   · unfold IB Bj.S
     rw [DO,AK rfl];congr 1
     · simp only [Hz];rfl
     · rw [J0]
       refine V1 fun e m=>?_;show(if e.b=z.r then _ else _)=_
       rw [AH (I e m)];unfold Bt.ch;simp only [EZ _ _ (I e m)]
 · obtain ⟨e,m,rfl⟩:=Bk.1 B
   refine ⟨_,_,z.node m,.inl V,fun v=>?_⟩;have J:z.r≠e.b:=fun h=>g.1 (h▸DM m)
   constructor<;>
   · unfold IB Bj.S
     rw [DO,AH J];congr 1
     · simp only [EZ _ _ J]
     · rw [J0]
       refine V1 fun e' G=>?_;show(if e'.b=e.b then _ else _)=_
       split
       · rename_i h
         obtain rfl:=G9 g.2 G m h;unfold Bt.ch;simp only [Hz];rfl
       · rename_i h
         unfold Bt.ch;simp only [EZ _ _ h]
theorem Bj.fr_upd(z:Bj)(B:z.bl.Nodup)(v:Int):IB z.r (.cells ((#[.string ⟨#[]⟩,I4 0,I4 0,z.bf z.r,z.nx z.r,I4 z.cap,z.sh,z.us,z.mv,I4 z.fr]:Array Value).setIfInBounds 9 (I4 v)) 182 (0,0)) z.S=({z with fr:=v}:Bj).S:=by
 have g:(z.r::z.E.map (·.b)).Nodup:=B;rw [HW]at g;have G:∀e∈z.E,e.b≠z.r:=fun e m h=>g.1 (h▸DM m)
 unfold IB Bj.S;rw [DO,AK rfl];congr 1;rw [J0];refine V1 fun e m=>?_;show(if e.b=z.r then _ else _)=_
 rw [AH (G e m)]
def Ex:Nat->List Nat->Nat->List (Nat×Nat)
 |a,[],c=>[(a,c)]
 |a,b::l,c=>(a,b)::Ex b l c
theorem NW:∀(a:Nat) (l:List Nat),∃A p,∀y,Ex a l y=A++[(p,y)]
 |a,[]=>⟨[],a,fun _=>rfl⟩
 |a,b::l=>by
  obtain ⟨A,p,h⟩:=NW b l;exact ⟨(a,b)::A,p,fun y=>by rw [Ex,h];rfl⟩
theorem dh:∀(l:List Nat) (c:Nat),∃n B,∀x,Ex x l c=(x,n)::B
 |[],c=>⟨c,[],fun _=>rfl⟩
 |b::l,c=>⟨b,Ex b l c,fun _=>rfl⟩
theorem MU:∀(a:Nat) (l:List Nat) (x:Nat) (m:List Nat) (c:Nat),Ex a (l++x::m) c=Ex a l x++Ex x m c
 |a,[],x,m,c=>rfl
 |a,b::l,x,m,c=>by
  show(a,b)::Ex b (l++x::m) c=_;rw [MU b l x m c];rfl
theorem J5:∀(a:Nat) (l:List Nat) (c:Nat),(Ex a l c).map (·.1)=a::l
 |a,[],c=>rfl
 |a,b::l,c=>by rw [Ex,DO,J5 b l c]
theorem K4:∀(a:Nat) (l:List Nat) (c:Nat),(Ex a l c).map (·.2)=l++[c]
 |a,[],c=>rfl
 |a,b::l,c=>by rw [Ex,DO,K4 b l c];rfl
def pV(b:Nat):Value:=I5 b
def JJ(nx bf:Nat->Value)(r:Nat)(l:List Nat):Prop:=∀q∈Ex r l r,nx q.1=pV q.2/\bf q.2=pV q.1
variable{bf nx:Nat->Value}{r:Nat}
theorem ow(h:nx r=pV r)(h2:bf r=pV r):JJ nx bf r []:=fun q g=>by
 obtain rfl:=BT.1 g;exact ⟨h,h2⟩
theorem SC{l:List Nat}(g:(r::l).Nodup):((Ex r l r).map (·.1)).Nodup/\((Ex r l r).map (·.2)).Nodup:=by
 rw [J5,K4];refine ⟨g,?_⟩;rw [HW]at g;rw [Ge];exact ⟨g.2,by simp,fun x m y B=>by rw [BT.1 B];rintro rfl;exact g.1 m⟩
theorem oz{l1 l2:List Nat}(U:(r::(l1++x::l2)).Nodup)(h:JJ nx bf r (l1++x::l2)):∃p n,p∈r::(l1++l2)/\n∈r::(l1++l2)/\bf x=pV p/\nx x=pV n/\JJ (DW nx p (pV n)) (DW bf n (pV p)) r (l1++l2):=by
 obtain ⟨A,p,K⟩:=NW r l1;obtain ⟨n,B,O⟩:=dh l2 r;have e1:Ex r (l1++x::l2) r=A++(p,x)::(x,n)::B:=by rw [MU,K,O];simp
 have e2:Ex r (l1++l2) r=A++(p,n)::B:=by
  cases l2 with
  |nil=>
   have J:=O 0;injection J with h2 h3
   injection h2 with _ h2
   subst h2 h3;rw [Cp,K]
  |cons y m=>
   have J:=O 0;injection J with h2 h3
   injection h2 with _ h2
   subst h2;rw [MU,K,<-h3];simp
 obtain ⟨I,d2⟩:=SC U;rw [e1,BW,DO,DO,Ge,HW,HW]at I d2;have W:p∈r::(l1++l2):=by
  have:=J5 r (l1++l2) r;rw [e2]at this;rw [<-this];simp
 have g:n∈r::(l1++l2):=by
  have:=K4 r (l1++l2) r;rw [e2]at this;have G:n∈l1++l2++[r]:=by rw [<-this];simp
  rcases B9.1 G with G|G
  · exact E3 _ G
  · rw [BT.1 G];exact Dd ..
 refine ⟨p,n,W,g,(h _ (by rw [e1];simp:(p,x)∈_)).2,(h _ (by rw [e1];simp:(x,n)∈_)).1,fun q g=>?_⟩;rw [e2]at g;rcases B9.1 g with g|g
 · have h0:=h q (by rw [e1];simp [g])
   rw [EZ _ _ fun e=>I.2.2 _ (DM g) p (Dd ..) e,EZ _ _ fun e=>d2.2.2 _ (DM g) n (E3 _ (Dd ..)) e];exact h0
 · rcases D0.1 g with rfl|g
   · exact ⟨Hz _ _ _,Hz _ _ _⟩
   · have h0:=h q (by rw [e1];simp [g])
     rw [EZ _ _ fun e=>I.2.1.1 (by show p∈_;rw [<-e];exact E3 _ (DM g)),EZ _ _ fun e=>d2.2.1.2.1 (by show n∈_;rw [<-e];exact DM g)];exact h0
theorem pE{l:List Nat}(X:(r::l).Nodup)(J:x∉r::l)(h:JJ nx bf r l):∃p,p∈r::l/\bf r=pV p/\JJ (DW (DW nx x (pV r)) p (pV x)) (DW (DW bf x (pV p)) r (pV x)) r (l++[x]):=by
 obtain ⟨A,p,U⟩:=NW r l;have e1:=U r
 have e2:Ex r (l++[x]) r=A++(p,x)::[(x,r)]:=by rw [MU,U];simp [Ex]
 obtain ⟨O,d2⟩:=SC X;rw [e1,BW,Ge]at O d2;have W:p∈r::l:=by
  have:=J5 r l r;rw [e1]at this;rw [<-this];simp
 have I:x≠r:=fun e=>J (by rw [e];exact Dd ..);have K:x≠p:=fun e=>J (by rw [e];exact W)
 refine ⟨p,W,(h _ (by rw [e1];simp:(p,r)∈_)).2,fun q g=>?_⟩;rw [e2]at g;have B:∀q∈A,q.1∈r::l:=fun q g=>by
  rw [<-J5 r l r,e1];exact DM (by simp [g])
 have G:∀q∈A,q.2≠x:=fun q g e=>by
  have m:q.2∈l++[r]:=by rw [<-K4 r l r,e1];exact DM (by simp [g])
  rw [e]at m;rcases B9.1 m with m|m
  · exact J (E3 _ m)
  · exact I (BT.1 m)
 rcases B9.1 g with g|g
 · have h0:=h q (by rw [e1];simp [g])
   rw [EZ _ _ fun e=>O.2.2 _ (DM g) p (Dd ..) e,EZ _ _ fun e=>J (by rw [<-e];exact B q g),EZ _ _ fun e=>d2.2.2 _ (DM g) r (Dd ..) e,EZ _ _ (G q g)];exact h0
 · rcases D0.1 g with rfl|g
   · exact ⟨Hz _ _ _,by show DW _ _ _ x=_;rw [EZ _ _ I,Hz]⟩
   · obtain rfl:=BT.1 g
     exact ⟨by show DW _ _ _ x=_;rw [EZ _ _ K,Hz],Hz _ _ _⟩
theorem gM(r:Nat)(T:TypeId)(zz:Nat×Nat)(g m B W U G I J K O:Value):Ba prog 89 #[I5 r] [[(r,.cells #[g,m,B,W,U,G,I,J,K,O] T (0,0))]] (fun v H'=>v=undef/\H'=[[(r,.cells #[g,m,B,I5 r,I5 r,G,I,J,K,O] T (0,0))]]):=by
 refine Se func89 ntmps89 [0] ?_;intro u R;refine Az (n:=16) (0::0::0::4::12::0::32::96::29::285::797::1821::4095::8191::16383::32767::[]) 34816 A6 A6 V<|A2 0 V (AQ Y)<|A2 1 V (AQ Y)<|A2 2 V (AQ Y)<|A2 3 V (Ap Y V)<|A2 4 V (AB (off:=0) eR V rfl fN Y)<|A2 5 V (AQ Y)<|A2 6 V (Ap Y V)<|A2 7 V (AB (off:=0) eR V rfl fN Y)<|A2 8 V (Ap Y V)<|A2 9 V (AB (off:=0) eR V rfl fN Y)<|A2 10 V (AB (off:=3) JT V rfl Hb Y)<|Zz (l:=[11])<|B1 [] [] V rfl (Zs Hb Y Y V) ?_ (fun _ _ h=>h.elim) Ag;rintro _ _ ⟨rfl,rfl⟩;refine B5<|A2 12 V (Ap Y V)<|A2 13 V (AB (off:=0) eR V rfl fN Y)<|A2 14 V (AB (off:=4) JT V rfl Hb Y)<|Zz (l:=[15])<|B1 [] [] V rfl (Zs Hb Y Y V) ?_ (fun _ _ h=>h.elim) Ag;rintro _ _ ⟨rfl,rfl⟩;refine B5<|Ai<|Cv V results89 (by exact ⟨V,V⟩)
theorem Xy(z:Bj)(G:z.bl.Nodup)(B:e∈z.E){p n:Nat}(J:p∈z.bl)(I:n∈z.bl)(g:z.bf e.b=pV p)(m:z.nx e.b=pV n):Ba prog 144 #[.pointer (some ⟨e.b,0,none⟩)] [z.S] (fun v H'=>v=undef/\H'=[({z with nx:=DW z.nx p (pV n),bf:=DW z.bf n (pV p)}:Bj).S]):=by
 obtain ⟨c1,X,K,s1,U⟩:=z.upd G J;obtain ⟨c2,Z,O,s2,W⟩:=Bj.upd ({z with nx:=DW z.nx p (pV n)}:Bj) G I;refine Se func144 ntmps144 [0] ?_;intro u R;refine Az (n:=22) (0::1::3::7::0::16::48::112::0::256::768::1792::0::4096::12288::28672::65535::131071::262143::524287::1048575::2097151::[]) 2359296 A6 A6 V<|A2 0 V (AQ Y)<|A2 1 V (Ap Y V)<|A2 2 V (AB (off:=3) JT V rfl Hb Y)<|DI (D':=15) 3 V rfl V (F8 Wo (z.node B)) (BO isAgg176 Y (by exact congrArg some g)) ?_;refine A2 4 V (AQ Y)<|A2 5 V (Ap Y V)<|A2 6 V (AB (off:=4) JT V rfl Hb Y)<|DI (D':=255) 7 V rfl V (F8 Wo (z.node B)) (BO isAgg176 Y (by exact congrArg some m)) ?_;refine A2 8 V (AQ Y)<|A2 9 V (Ap Y V)<|A2 10 V (AB (off:=4) JT V rfl Hb Y)<|DI (D':=4095) 11 V rfl V (F8 Wo (z.node B)) (BO isAgg176 Y (by exact congrArg some m)) ?_;refine A2 12 V (AQ Y)<|A2 13 V (Ap Y V)<|A2 14 V (AB (off:=3) JT V rfl Hb Y)<|DI (D':=65535) 15 V rfl V (F8 Wo (z.node B)) (BO isAgg176 Y (by exact congrArg some g)) ?_;refine A2 16 V (Ap Y V)<|A2 17 V (AB (off:=4) JT V rfl Hb Y)<|Zz (l:=[18])<|B1 [false,false,false,false] [] V rfl (Gh Hb Y Y V Wo (K) (by exact (U _).1) A1 (by exact BA _)) ?_ (fun _ _ h=>h.elim) Ag;rintro _ _ ⟨rfl,rfl⟩;refine B5<|A2 19 V (Ap Y V)<|A2 20 V (AB (off:=3) JT V rfl Hb Y)<|Zz (l:=[21])<|B1 [] [] V rfl (Gh Hb Y Y V Wo (O) (by exact (W _).2) A1 (by exact BA _)) ?_ (fun _ _ h=>h.elim) Ag;rintro _ _ ⟨rfl,rfl⟩;refine B5<|Ai<|Cv V results144 (by exact ⟨V,V⟩)
variable{k:Nat}
theorem Wj{e:TypeId}{v:Value}{xs:List Value}{s:List A9}(h:Row e v xs s){y0:Value}(K:xs[k]?=some y0):∃b cap cur z,v=I6 b xs.length cap/\s=[(b,.cells cur e z)]/\k<cur.size/\IW z cur.size/\cur[k]?=some y0/\∀y:Value,Row e v (xs.set k y) [(b,.cells (cur.setIfInBounds k y) e z)]:=by
 have I:=(BE.1 K).1;obtain ⟨b,cap,cur,z,hv,J,O,h2,U⟩:=vU h I;refine ⟨b,cap,cur,z,hv,J,O,h2,?_,U⟩;obtain ⟨X,B,G,Z,W,g,_,_,_,m,_⟩:=h.some A1;rw [J]at g;injection g with g _
 injection g with _ g
 injection g with g _
 subst g;rw [<-HE,<-iv I,m];exact K
def FU(L:List Bt)(k:Int):Int:=(L.map fun e=>if e.te=k then e.sz else 0).sum
def L8(L:List Bt):Int:=(L.map (·.sz)).sum
structure Di(z:Bj)(ns:Nat)(L:List Bt)(mb:Nat)(es:Array MapEntry)(ck:Nat)(lm:List (ByteArray×Value))(su:List A9):Prop where
 sub:∀e∈L,e∈z.E
 ring:JJ z.nx z.bf z.r (L.map (·.b))
 mv:z.mv= .map (some mb)
 map:Cj (fun k:ByteArray=>Value.string k) es ck lm
 mem:∀p,p∈lm↔∃e∈L,p=(e.key,pV e.b)
 keys:(L.map (·.key)).Nodup
 used:Row 3 z.us ((List.range ns).map fun k:Nat=>Value.int .i64 (FU L (k:Int))) su
 te:∀e∈L,0<=e.te/\e.te<(ns:Int)
 sz:∀e∈L,1<=e.sz
 free:z.fr=z.cap -L8 L
 room:0<=z.fr
 sh:∃a c,z.sh= .slice a ns c
 cap:1<=z.cap/\z.cap<=1000000
theorem RY(A B:List Bt)(k:Int):FU (A++B) k=FU A k+FU B k:=by unfold FU;rw [BW,nq]
theorem PV(e:Bt)(L:List Bt)(k:Int):FU (e::L) k=(if e.te=k then e.sz else 0)+FU L k:=by unfold FU;rw [DO,gh]
theorem LH(A B:List Bt):L8 (A++B)=L8 A+L8 B:=by unfold L8;rw [BW,nq]
theorem Jq(e:Bt)(L:List Bt):L8 (e::L)=e.sz+L8 L:=by unfold L8;rw [DO,gh]
theorem NM:∀{L:List Bt},(∀e∈L,1<=e.sz)->∀k,0<=FU L k/\FU L k<=L8 L
 |[],_,k=>by unfold FU L8;simp
 |e::L,h,k=>by
  have m:=NM (fun x g=>h x (E3 _ g)) k;have h2:=h e (Dd ..)
  rw [PV,Jq];split<;>omega
variable{ns:Nat}
theorem VD(f g:Nat->Value){v:Value}(B:k<ns)(hv:g k=v)(m:∀i,i<ns->i≠k->g i=f i):((List.range ns).map f).set k v=(List.range ns).map g:=by
 apply Lz;intro i;rw [Sf,B2,aq,DH,DH];by_cases hi:i<ns
 · rw [Wr hi]
   by_cases e:k=i
   · subst e;rw [AK rfl,AK hi,<-hv];rfl
   · rw [AH e];exact congrArg some (m i hi (cQ e)).symm
 · rw [AH (by omega:¬k=i),Mp HQ];rfl
variable{z:Bj}{L:List Bt}{mb ck:Nat}{es:Array MapEntry}{lm:List (ByteArray×Value)}{su:List A9}
theorem Di.nodup(h:Di z ns L mb es ck lm su)(B:z.bl.Nodup):(z.r::L.map (·.b)).Nodup:=by
 have g:(z.r::z.E.map (·.b)).Nodup:=B;rw [HW]at g⊢;refine ⟨fun J=>?_,?_⟩
 · obtain ⟨e,G,m⟩:=Bk.1 J
   exact g.1 (m▸DM (h.sub e G))
 · have I:=T7.1 h.keys
   refine T7.2 (I.imp_of_mem fun{a b} ha m hne e=>hne ?_);rw [G9 g.2 (h.sub a ha) (h.sub b m) e]
theorem Di.use(h:Di z ns L mb es ck lm su)(k:Int):0<=FU L k/\FU L k<=1000000:=by
 have g:=NM h.sz k;have h2:=h.free;have m:=h.room;have B:=h.cap
 omega
theorem Di.size(h:Di z ns L mb es ck lm su)(m:e∈L):1<=e.sz/\e.sz<=1000000:=by
 obtain ⟨A,B,rfl⟩:=ao m;have G:=LH A (e::B)
 rw [Jq]at G;have O:=(NM (fun x g=>h.sz x (DS _ g):∀x∈A,1<=x.sz) 0)
 have U:=(NM (fun x g=>h.sz x (G1 _ (E3 _ g)):∀x∈B,1<=x.sz) 0);have h2:=h.free;have I:=h.room;have J:=h.cap;have K:=h.sz e m
 omega
theorem Di.get(h:Di z ns L mb es ck lm su)(g:e∈L):EF e.key lm=some (pV e.b):=Cw h.map.keys ((h.mem _).2 ⟨e,g,rfl⟩)
theorem Di.none{z:Bj}{ns:Nat}{L:List Bt}{mb:Nat}{es:Array MapEntry}{ck:Nat}{lm:List (ByteArray×Value)}{su:List A9}(h:Di z ns L mb es ck lm su){K:ByteArray}(g:∀e∈L,e.key≠K):EF K lm=none:=DV fun p B=>by
 obtain ⟨e,m,rfl⟩:=(h.mem p).1 B;exact g e m
variable{L2 L1:List Bt}
theorem dN(h:Di z ns (L1++e::L2) mb es ck lm su)(hr:JJ nx bf z.r ((L1++L2).map (·.b))){J:Array MapEntry}{I:Nat}{G:List (ByteArray×Value)}
 (hm:Cj (fun k:ByteArray=>Value.string k) J I G)(hp:∀p,p∈G↔p∈lm/\p.1≠e.key)(hk:e.te=(k:Int)){O:List A9}(X:Row 3 z.us (((List.range ns).map fun i:Nat=>Value.int .i64 (FU (L1++e::L2) (i:Int))).set k (I4 (FU (L1++e::L2) (k:Int)+(-1)*e.sz))) O):
 Di {z with nx:=nx,bf:=bf,fr:=z.fr -(-1)*e.sz} ns (L1++L2) mb J I G O:=by
 have B:∀x∈L1++L2,x∈L1++e::L2:=fun x g=>by
  rcases B9.1 g with g|g
  · exact DS _ g
  · exact G1 _ (E3 _ g)
 have U:k<ns:=by have:=(h.te e B0).2;omega
 have K:∀i:Int,FU (L1++e::L2) i=FU (L1++L2) i+if e.te=i then e.sz else 0:=fun i=>by
  rw [RY,PV,RY];omega
 have m:=h.keys;rw [BW,DO,Ge,HW]at m;have W:∀x∈L1++L2,x.key≠e.key:=fun x g=>by
  rcases B9.1 g with g|g
  · exact m.2.2 _ (DM g) _ (Dd ..)
  · exact fun hh=>m.2.1.1 (hh▸DM g)
 have h1:=h.sz e B0;have h2:=h.room
 have Z:=h.free;rw [LH,Jq]at Z;refine ⟨fun x g=>h.sub x (B x g),hr,h.mv,hm,fun p=>?_,?_,?_,fun x g=>h.te x (B x g),fun x g=>h.sz x (B x g),?_,?_,h.sh,h.cap⟩
 · rw [hp,h.mem]
   constructor
   · rintro ⟨⟨x,g,rfl⟩,hn⟩
     rcases B9.1 g with g|g
     · exact ⟨x,DS _ g,rfl⟩
     · rcases D0.1 g with rfl|g
       · exact absurd rfl hn
       · exact ⟨x,G1 _ g,rfl⟩
   · rintro ⟨x,g,rfl⟩
     exact ⟨⟨x,B x g,V⟩,W x g⟩
 · rw [BW,Ge]
   exact ⟨m.1,m.2.1.2,fun a ha b hb=>m.2.2 a ha b (E3 _ hb)⟩
 · rw [VD (v:=I4 (FU (L1++e::L2) (k:Int)+(-1)*e.sz)) (fun i:Nat=>Value.int .i64 (FU (L1++e::L2) (i:Int))) (fun i:Nat=>Value.int .i64 (FU (L1++L2) (i:Int))) U (by show Value.int .i64 _=Value.int .i64 _;rw [K,AK hk];congr 1;omega) (fun i _ hi=>by
    show Value.int .i64 _=Value.int .i64 _;rw [K,AH A1];congr 1;omega)]at X
   exact X
 · show z.fr -(-1)*e.sz=z.cap -_
   rw [LH];omega
 · show 0<=z.fr -(-1)*e.sz
   omega
theorem SY(h:Di z ns L mb es ck lm su)(hr:JJ nx bf z.r ((L++[e]).map (·.b))){I:Array MapEntry}{G:Nat}{B:List (ByteArray×Value)}
 (U:∀x∈L,x.key≠e.key)(hm:Cj (fun k:ByteArray=>Value.string k) I G B)(hp:∀p,p∈B↔p=(e.key,pV e.b)\/(p∈lm/\p.1≠e.key))(hk:e.te=(k:Int))(O:k<ns)(hs:1<=e.sz/\e.sz<=z.fr){K:List A9}(W:Row 3 z.us (((List.range ns).map fun i:Nat=>Value.int .i64 (FU L (i:Int))).set k (I4 (FU L (k:Int)+1*e.sz))) K):
 Di {z with E:=z.E++[e],nx:=nx,bf:=bf,fr:=z.fr -1*e.sz} ns (L++[e]) mb I G B K:=by
 have J:∀i:Int,FU (L++[e]) i=FU L i+if e.te=i then e.sz else 0:=fun i=>by
  rw [RY,PV];unfold FU;simp
 have h3:=h.free;have m:∀{Q:Bt->Prop},(∀x∈L,Q x)->Q e->∀x∈L++[e],Q x:=fun X h2 x g=>by
  rcases B9.1 g with g|g
  · exact X x g
  · rw [BT.1 g];exact h2
 refine ⟨m (fun x g=>DS _ (h.sub x g)) (G1 _ (BT.2 V)),hr,h.mv,hm,fun p=>?_,?_,?_,m h.te ⟨by omega,by omega⟩,m h.sz hs.1,?_,?_,h.sh,h.cap⟩
 · rw [hp,h.mem]
   constructor
   · rintro (rfl|⟨⟨x,g,rfl⟩,_⟩)
     · exact ⟨e,by simp,rfl⟩
     · exact ⟨x,DS _ g,rfl⟩
   · rintro ⟨x,g,rfl⟩
     rcases B9.1 g with g|g
     · exact .inr ⟨⟨x,g,rfl⟩,U x g⟩
     · rw [BT.1 g];exact .inl rfl
 · rw [BW,Ge]
   refine ⟨h.keys,by simp,fun a Z b hb=>?_⟩;obtain ⟨x,g,rfl⟩:=Bk.1 Z;obtain rfl:=BT.1 hb;exact U x g
 · rw [VD (v:=I4 (FU L (k:Int)+1*e.sz)) (fun i:Nat=>Value.int .i64 (FU L (i:Int))) (fun i:Nat=>Value.int .i64 (FU (L++[e]) (i:Int))) O (by show Value.int .i64 _=Value.int .i64 _;rw [J,AK hk];congr 1;omega) (fun i _ hi=>by
    show Value.int .i64 _=Value.int .i64 _;rw [J,AH A1];congr 1;omega)]at W
   exact W
 · show z.fr -1*e.sz=z.cap -_
   rw [LH,Jq];unfold L8 at*;simp;omega
 · show 0<=z.fr -1*e.sz
   omega
theorem Qj(z:Bj)(g:z.bl.Nodup)(G:e∈z.E){p:Nat}(I:p∈z.bl)(m:z.bf z.r=pV p):Ba prog 96 #[.pointer (some ⟨e.b,0,none⟩),.pointer (some ⟨z.r,0,none⟩)] [z.S] (fun v H'=>v=undef/\H'=[({z with nx:=DW (DW z.nx e.b (pV z.r)) p (pV e.b),bf:=DW (DW z.bf e.b (pV p)) z.r (pV e.b)}:Bj).S]):=by
 have B:e.b∈z.bl:=E3 _ (DM G);obtain ⟨c1,T1,J,s1,W⟩:=z.upd g B;obtain ⟨c2,T2,K,s2,X⟩:=Bj.upd ({z with bf:=DW z.bf e.b (pV p)}:Bj) g B;obtain ⟨c3,T3,O,s3,Z⟩:=Bj.upd ({z with bf:=DW z.bf e.b (pV p),nx:=DW z.nx e.b (pV z.r)}:Bj) g I;obtain ⟨c4,T4,U,s4,u4⟩:=Bj.upd ({z with bf:=DW z.bf e.b (pV p),nx:=DW (DW z.nx e.b (pV z.r)) p (pV e.b)}:Bj) g (Dd ..);refine Se func96 ntmps96 [0,1] ?_;intro u R;refine A0<|Zm Y<|Zm Y<|Zm Y<|Zp Y V<|Zh 3 JT V rfl Hb Y<|CO (Gf Wo (z.root)) (BO isAgg176 Y (by exact congrArg some m)) V rfl ?_;refine Zm Y<|Zp Y V<|Zh 3 JT V rfl Hb Y<|Xe (Gh Hb Y Y V Wo (J) (by exact (W _).2) A1 (by exact BA _)) ?_;refine Zp Y V<|Zh 4 JT V rfl Hb Y<|Xe (Gh Hb Y Y V Wo (K) (by exact (X _).1) A1 (by exact BA _)) ?_;refine Z0<|Zn [0,1] ?_;refine Zx<|Zg<|Zm Y<|Zp Y V<|Zh 3 JT V rfl Hb Y<|CO (Gf Wo ((Bj.node ({z with bf:=DW z.bf e.b (pV p),nx:=DW z.nx e.b (pV z.r)}:Bj) G))) (BO isAgg176 Y (by exact congrArg some (Hz _ _ _))) V rfl ?_;refine Zm Y<|Zm Y<|Zm Y<|Zp Y V<|Zh 4 JT V rfl Hb Y<|Xe (Gh Hb Y Y V Wo (O) (by exact (Z _).1) A1 (by exact BA _)) ?_;refine Zp Y V<|Zh 3 JT V rfl Hb Y<|Xe (Gh Hb Y Y V Wo (U) (by exact (u4 _).2) A1 (by exact BA _)) ?_;refine Z0<|Cv V results96 (by exact ⟨V,V⟩)
theorem Ns(z:Bj)(U:z.bl.Nodup)(G:e∈z.E){sg:Int}(J:sg=1\/sg=-1){xs:List Value}(hu:Row 3 z.us xs su)(X:e.te=(k:Int)){x:Int}(O:xs[k]?=some (I4 x))(bn:-1000000000<=x/\x<=1000000000)(ax:0<=e.sz/\e.sz<=1000000000)(W:-1000000000<=z.fr/\z.fr<=1000000000):Ba prog 97 #[.pointer (some ⟨z.r,0,none⟩),.pointer (some ⟨e.b,0,none⟩),I4 sg] [z.S,su] (fun v H'=>v=undef/\∃B,Row 3 z.us (xs.set k (I4 (x+sg*e.sz))) B/\H'=[({z with fr:=z.fr -sg*e.sz}:Bj).S,B]):=by
 have Z:=(BE.1 O).1;obtain ⟨bu,cu,cur,zu,K,rfl,af,I,g,m⟩:=Wj hu O;have hm:-1000000000<=sg*e.sz/\sg*e.sz<=1000000000:=by rcases J with rfl|rfl<;>omega
 refine Se func97 ntmps97 [0,1,2] ?_;intro u R;refine Zq<|Az (n:=19) (0::1::3::7::0::16::48::112::255::511::0::0::2048::6144::14336::31744::65535::131071::262143::[]) 262144 A6 A6 V<|A2 0 V (AQ Y)<|A2 1 V (Ap Y V)<|A2 2 V (AB (off:=7) HK V rfl dc Y)<|DI (D':=15) 3 V rfl V (F8 Wo (z.root)) (BO cG Y (by exact congrArg some K)) ?_;refine A2 4 V (AQ Y)<|A2 5 V (Ap Y V)<|A2 6 V (AB (off:=1) JT V rfl A5 Y)<|DI (D':=255) 7 V rfl V (F8 Wo (z.node G)) (BO AE Y (by exact congrArg (fun t=>some (Value.int .i64 t)) X)) ?_;refine A2 8 rfl (BS Cd A5 Y Y (by first|omega|(rw [SM];omega)))<|B3 9 rfl AE Y (hv:=by exact g) ?_;refine A2 10 V (AQ Y)<|A2 11 V (AQ Y)<|A2 12 V (Ap Y V)<|A2 13 V (AB (off:=2) JT V rfl A5 Y)<|DI (D':=32767) 14 V rfl V (F8 Wo (z.node G)) (BO AE Y AM) ?_
 (refine Dl (D':=65535) 15 (qJ Y Y (IntWalk.i64_in _ ?_)) ?_;(focus (omega)))
 (refine Dl (D':=131071) 16 (H6 Y Y (IntWalk.i64_in _ ?_)) ?_;(focus (omega)))
 refine A2 17 rfl (BS Cd A5 Y Y (by first|omega|(rw [SM];omega)))<|Yw 18 524287 rfl (Zs A5 Y Y rfl (hi:=by omega) (hz:=by exact I))<|CM<|Ai<|Zn [0,1,2] ?_;refine Zx<|Az (n:=14) (0::1::3::7::0::0::32::96::224::496::1023::2047::4095::8191::[]) 8192 A6 A6 V<|A2 0 V (AQ Y)<|A2 1 V (Ap Y V)<|A2 2 V (AB (off:=9) HK V rfl A5 Y)<|DI (D':=15) 3 V rfl V (F8 Wo (z.root)) (BO AE Y AM) ?_;refine A2 4 V (AQ Y)<|A2 5 V (AQ Y)<|A2 6 V (Ap Y V)<|A2 7 V (AB (off:=2) JT V rfl A5 Y)<|DI (D':=511) 8 V rfl V (F8 Wo (z.node G)) (BO AE Y AM) ?_
 (refine Dl (D':=1023) 9 (qJ Y Y (IntWalk.i64_in _ ?_)) ?_;(focus (omega)))
 (refine Dl (D':=2047) 10 (GG Y Y (IntWalk.i64_in _ ?_)) ?_;(focus (omega)))
 refine A2 11 V (Ap Y V)<|A2 12 V (AB (off:=9) HK V rfl A5 Y)<|Zz (l:=[13])<|B1 [false,false] [] V rfl (Gh A5 Y Y V Wo (z.root) (by exact z.fr_upd U _) Wn (by exact BA _)) ?_ (fun _ _ h=>h.elim) Ag;rintro _ _ ⟨rfl,rfl⟩;refine B5<|Ai<|Cv V results97 (by exact ⟨V,_,m _,V⟩)
theorem mM(z:Bj)(m:z.mv= .map (some mb))(B:Cj (fun k:ByteArray=>Value.string k) es ck lm)(K:ByteArray):BJ prog 143 #[.pointer (some ⟨z.r,0,none⟩),.string K] [z.S,[(mb,.map es ck)]] (.tuple #[(EF K lm).getD (.pointer none),.bool (EF K lm).isSome]):=by
 refine Se func143 ntmps143 [0,1] ?_;intro u R;refine A0<|Za Y<|A3 Y<|Zq<|A0<|Zm Y<|Zv (Be lO Y Y)<|A4<|AV Y (fun g=>by cases g)<|fun g=>AC<|Zx<|A0<|Zm Y<|Zp Y V<|Zh 8 HK V rfl fR Y<|CO (Gf Wo (z.root)) (BO isAgg175 Y (by exact congrArg some m)) V rfl ?_;refine Zm Y<|Zo Wh (Dy (Dn GO (D:=fun _=>True)) eS lz B (fun _ _=>trivial) (trivial) (⟨V,V⟩) Y Y) ?_;refine Zm Y<|Zd Y V<|Zd Y V<|Za Y<|AG Y<|Zn [6,7] ?_;refine Zx<|A0<|Zm Y<|Zm Y<|Za Y<|A3 Y<|AJ<|Cu V results143 Y Y (by exact ⟨V,V⟩)
theorem Uo(g:Di z ns (L1++e::L2) mb es ck lm su)(Z:z.bl.Nodup):Ba prog 92 #[.pointer (some ⟨z.r,0,none⟩),.pointer (some ⟨e.b,0,none⟩)] [z.S,[(mb,.map es ck)],su] (fun v H'=>v=undef/\∃K G B ek J,K.r=z.r/\K.cap=z.cap/\K.E=z.E/\Di K ns (L1++L2) mb G B ek J/\H'=[K.S,[(mb,.map G B)],J]):=by
 have he:e∈z.E:=g.sub e B0;have bn:=g.nodup Z
 obtain ⟨p,n,hp,hn,X,cu,m⟩:=oz (l1:=L1.map (·.b)) (l2:=L2.map (·.b)) (x:=e.b) (by simpa using bn) (by simpa using g.ring);have I:∀q,q∈z.r::(L1.map (·.b)++L2.map (·.b))->q∈z.bl:=fun q O=>by
  rcases D0.1 O with rfl|O
  · exact Dd ..
  · rw [<-BW]at O
    obtain ⟨x,hx,rfl⟩:=Bk.1 O;exact E3 _ (DM (g.sub x (by rcases B9.1 hx with h|h<;>simp [h])))
 rw [<-BW]at m;have j5:=g.te e B0
 obtain ⟨k,hk⟩:∃k:Nat,e.te=(k:Int):=⟨e.te.toNat,by omega⟩;have af:k<ns:=by omega
 have kv:=g.use (k:Int);have j3:=g.size (e:=e) B0
 have gy:=g.room;have ic:z.fr<=1000000:=by
  have h1:=g.free;have h2:=g.cap;have h3:=NM g.sz 0
  omega
 refine Se func92 ntmps92 [0,1] ?_;intro u R;refine A0<|Zm Y<|Zc [_] Y call144 Y V (Xy z Z he (I p hp) (I n hn) X cu) ?_;rintro _ _ ⟨_,⟨rfl,rfl⟩,rfl⟩;refine A4<|Zq<|Az (n:=9) (0::1::3::7::0::16::48::112::255::[]) 256 A6 A6 V<|A2 0 V (AQ Y)<|A2 1 V (Ap Y V)<|A2 2 V (AB (off:=8) HK V rfl fR Y)<|DI (D':=15) 3 V rfl V (F8 Wo ((Bj.root ({z with nx:=DW z.nx p (pV n),bf:=DW z.bf n (pV p)}:Bj)))) (BO isAgg175 Y (by exact congrArg some g.mv)) ?_;refine A2 4 V (AQ Y)<|A2 5 V (Ap Y V)<|A2 6 V (AB (off:=0) JT V rfl F0 Y)<|DI (D':=255) 7 V rfl V (F8 Wo ((Bj.node ({z with nx:=DW z.nx p (pV n),bf:=DW z.bf n (pV p)}:Bj) he))) (BO HC Y AM) ?_;refine Yw 8 511 V (LF (Dn GO (D:=fun _=>True)) eS g.map (fun _ _=>trivial) (trivial) Y Y Wo) ?_;rintro _ _ ⟨rfl,W,U,gm,ax,cO,rfl⟩;refine Ai<|Zx<|Zg<|Zm Y<|Zm Y<|Zc [_,_,_] Y call97 Y rfl (Ns ({z with nx:=DW z.nx p (pV n),bf:=DW z.bf n (pV p)}:Bj) Z he (.inr rfl) g.used hk (k:=k) (x:=FU (L1++e::L2) (k:Int)) (by rw [DH,Wr af];rfl) A1 A1 (by show _<=z.fr/\z.fr<=_;omega)) ?_;rintro _ _ ⟨_,⟨rfl,gq,d9,rfl⟩,rfl⟩;refine Z0<|Cv V results92 (by exact ⟨V,({z with nx:=DW z.nx p (pV n),bf:=DW z.bf n (pV p),fr:=z.fr -(-1)*e.sz}:Bj),W,U,gm,gq,V,V,V,dN g m ax cO hk d9,V⟩)
theorem jv(B:Di z ns (L1++e::L2) mb es ck lm su)(Z:z.bl.Nodup):Ba prog 71 #[.pointer (some ⟨z.r,0,none⟩),.string e.key] [z.S,[(mb,.map es ck)],su] (fun v H'=>v= .bool true/\∃J m g I G,J.r=z.r/\J.cap=z.cap/\J.E=z.E/\Di J ns (L1++L2) mb m g I G/\H'=[J.S,[(mb,.map m g)],G]):=by
 have hg:=B.get (e:=e) B0;refine Se func71 ntmps71 [0,1] ?_;intro u R;refine A0<|A3 Y<|A0<|Zm Y<|Zm Y<|Xr [_,_] Y call143 Y V (mM z B.mv B.map e.key) ?_;rw [hg,fx];refine Zm Y<|Zd Y V<|Zd Y V<|Za Y<|A3 Y<|Zq<|A0<|Zm Y<|A4<|AV Y (fun K=>?_) (fun K=>?_)
 ·
  refine Zg<|Zm Y<|Zm Y<|Zc [_,_] Y call92 Y V (Uo B Z) ?_;rintro _ _ ⟨_,⟨rfl,J,m,g,I,G,X,W,U,O,rfl⟩,rfl⟩;refine Z0<|Zn [6] ?_;refine Zx<|A0<|Zm Y<|A3 Y<|AJ<|AO V results71 Y (by exact ⟨V,J,m,g,I,G,X,W,U,O,V⟩)
 cases K
theorem vK(B:Di z ns (L) mb es ck lm su)(hd:z.bl.Nodup)(U:k<ns):BJ prog 77 #[.pointer (some ⟨z.r,0,none⟩),I4 (k:Int)] [z.S,[(mb,.map es ck)],su] (I4 (FU L (k:Int))):=by
 obtain ⟨X,Z,cur,zu,g,rfl,W,O,m,I⟩:=Wj B.used (k:=k) (by rw [DH,Wr U];rfl);rw [B2,aq]at g;refine Se func77 ntmps77 [0,1] ?_;intro u R;refine A0<|A3 Y<|Zq<|A0<|Zm Y<|Zv (Be lO Y Y)<|Zm Y<|Af (t:=7) Y V (fun G=>by cases G)<|fun G=>Zf Y Y<|Yg (Au (n:=0) Y Y)<|Zv (AL Y Y)<|Zm Y<|Ao (t:=11) Y V (fun K=>by omega)<|fun K=>Zf Y Y<|Zf Y Y<|Yg (Ap Y V)<|Yf 7 HK V rfl dc Y<|Lh Y (Gf Wo (z.root)) (BO cG Y (by exact congrArg some g)) V rfl ?_;refine Yg (Ab Cd Y)<|Yg (Fw Y Y)<|Zv (AL Y Y)<|Z0<|Zn [0,1,19] ?_;refine Zx<|Av Y (fun J=>by omega)<|fun J=>AC<|Zx<|A0<|Zm Y<|Zp Y V<|Zh 7 HK V rfl dc Y<|CO (Gf Wo (z.root)) (BO cG Y (by exact congrArg some g)) V rfl ?_;refine Zm Y<|BX (BS Cd A5 Y Y A1)<|Zl AE Y (hv:=by exact m) ?_;refine A3 Y<|AJ<|AO V results77 Y (by exact ⟨V,V⟩)
end Go.Proofs.YteaiajghbkenoaaGreatDoor
