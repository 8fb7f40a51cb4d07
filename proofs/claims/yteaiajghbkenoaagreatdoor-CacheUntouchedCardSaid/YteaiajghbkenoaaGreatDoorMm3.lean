/- Match. -/
/- Contracts: strings.Builder. -/
/- The line of a query (plain); its parts. -/
/- The forms of the lines. -/
/- query.Print. -/
/- The keys of a map, sorted: string. -/
/- The ring of a pool. -/
/- The pool: what holds of it, its entries counted, taken and put. -/
/- The pool made; Put where there is room. -/
import Derived.Test.YteaiajghbkenoaaGreatDoorEz
import Derived.Test.YteaiajghbkenoaaGreatDoorCo1
import Derived.Test.YteaiajghbkenoaaGreatDoorPr3
import Derived.Test.YteaiajghbkenoaaGreatDoorEx36
import Derived.Test.YteaiajghbkenoaaGreatDoorLg4
import Derived.Test.YteaiajghbkenoaaGreatDoorQe3
import Derived.Test.YteaiajghbkenoaaGreatDoorQe1
import Derived.Test.YteaiajghbkenoaaGreatDoorEx5
import Derived.Test.YteaiajghbkenoaaGreatDoorProg
set_option linter.unusedVariables false
set_option linter.unusedSimpArgs false
namespace Go.Proofs.YteaiajghbkenoaaGreatDoor
open Go.Proofs.Tryz
open Go Go.RowKit Gw
set_option maxRecDepth 100000
attribute [local irreducible] Gw.At Gw.Nx Gw.Ops
variable{qs:List (Int×QM)}{c:Chg}
theorem sP{sc:Int->Int->List IvM}{jn:Int->List Int}(I:JM qs sc jn)(J:∀x∈qs,BJ x.2){cs:List Chg}{k:Nat}(hc:cs[k]?=some c)(i:Int):(JN qs (cs.take k) i\/(i∈ND sc jn c/\JN qs [c] i))↔JN qs (cs.take (k+1)) i:=by
 rw [Bn hc];unfold JN;constructor
 · rintro (⟨x,B,G,d,g,m⟩|⟨_,x,B,G,d,g,m⟩)
   · exact ⟨x,B,G,d,DP _ g,m⟩
   · exact ⟨x,B,G,d,Fm _ g,m⟩
 · rintro ⟨x,B,G,d,g,m⟩
   rcases BE.1 g with g|g
   · exact .inl ⟨x,B,G,d,g,m⟩
   · refine .inr ⟨?_,x,B,G,d,g,m⟩
     rw [BT.1 g]at m;rw [<-G];exact eT I B (J x B) m
variable{es:Array MapEntry}{ck:Nat}{lm:List (Int×Value)}{y:Int×QM}
theorem jG(g:Ee qs es ck lm)(B:y∈qs):JN qs [c] y.1↔Co y.2 c=true:=by
 constructor
 · rintro ⟨x,J,I,d,G,m⟩
   rw [BT.1 G]at m;rwa [zL g J B I]at m
 · intro h;exact ⟨y,B,rfl,c,by simp,h⟩
theorem mP(g:Ee qs es ck lm)(m:y∈qs)(h:Co y.2 c=true){S:Int->Prop}{pre:List Int}(i:Int):((S i\/(i∈pre/\JN qs [c] i))\/i=y.1)↔(S i\/(i∈pre++[y.1]/\JN qs [c] i)):=by
 rw [BE,BT];constructor
 · rintro ((h1|⟨h1,h2⟩)|rfl)
   · exact .inl h1
   · exact .inr ⟨.inl h1,h2⟩
   · exact .inr ⟨.inr rfl,(jG g m).2 h⟩
 · rintro (h1|⟨h1|rfl,h2⟩)
   · exact .inl (.inl h1)
   · exact .inl (.inr ⟨h1,h2⟩)
   · exact .inr rfl
theorem aC(g:Ee qs es ck lm)(m:y∈qs){S:Int->Prop}{pre:List Int}(h:Co y.2 c=true->S y.1\/(y.1∈pre/\JN qs [c] y.1))(i:Int):(S i\/(i∈pre/\JN qs [c] i))↔(S i\/(i∈pre++[y.1]/\JN qs [c] i)):=by
 rw [BE,BT];constructor
 · rintro (h1|⟨h1,h2⟩)
   · exact .inl h1
   · exact .inr ⟨.inl h1,h2⟩
 · rintro (h1|⟨h1|rfl,h2⟩)
   · exact .inl h1
   · exact .inr ⟨h1,h2⟩
   · exact h ((jG g m).1 h2)
theorem eY{ip mp:Nat}(J:Ee qs es ck lm)(hq:∀x∈qs,BJ x.2)(hl:qs.length<=500){lv:Value}{ML:List A9}(X:WN qs lv ML)(p:Int){MC:List A9}{qa:Option Addr}{cap:Nat}{cs:List Chg}(hC:Cr MC (.slice qa cs.length cap) cs)(sj:cs.length<=1000)(ek:∀c∈cs,c.ok):BZ prog 56 #[I5 ip,.agg #[I4 p,.slice qa cs.length cap]] [[(ip,.cells #[.map (some mp),lv] 186 (0,0))],[(mp,.map es ck)],ML,MC] (fun r H'=>∃(zs:List Int) (s':List A9) (lv':Value) (ML':List A9),(∀i,i∈zs↔JN qs cs i)/\zs.Nodup/\(zs.Pairwise fun x y=>x<=y)/\Row 3 r (zs.map (Value.int .i64)) s'/\WN qs lv' ML'/\H'=[[(ip,.cells #[.map (some mp),lv'] 186 (0,0))],[(mp,.map es ck)],ML',MC,s']):=by
 have sO:=mL;obtain ⟨pc,qb,pq,sw,kv⟩:=id hC;injection pq with hv1 hv2 hv3
 subst hv1 hv3;have sM:=J.len
 refine DL func56 V ntmps56 V ?_;intro u R;refine Zb [0,1] ?_;refine A0<|Ze (Bx #[_])<|AD fun bx=>Ze (Bx #[I4 p,.slice qa cs.length cap])<|AD fun br=>A3 Y<|Zq<|A0<|Zl isAgg116 Y ?_;refine Zv (Be underlying116 Y Y)<|A4<|AX Y (fun d9=>by cases d9)<|fun d9=>AC<|Zx<|A0<|Ze (DT)<|AD fun mf=>Ze (Al zeroValue213 #[_])<|AD fun bf=>Xe (Zs sizeOf213 Y Y V) ?_;refine A4<|Zq<|A0<|Zh 1 GS V rfl Lw Y<|Zl ON Y ?_;refine Zv (Aa G4 Y)<|Zm Y<|A4<|AQ<|Zb [15,2,5,13,14] ?_;refine uW (e0:=[(15,_)]) (H0:=_) (n:=_) (fun m e H=>∃(k:Nat) (lv:Value) (ML:List A9) (U:Array MapEntry) (O:Nat) (cu:List (Int×Value)),m=cs.length -k/\(k<=cs.length/\WN qs lv ML/\I8 (JN qs (cs.take k)) U O cu)/\e=[(15,I4 (k:Int))]/\H=[[(ip,.cells #[.map (some mp),lv] 186 (0,0))],ML,[(mf,.map U O)]]) (by exact ⟨0,lv,ML,#[],0,[],V,⟨C0 _,X,fV.cong fun i=>by unfold JN;simp⟩,V,V⟩) Wp ?_;rintro Ds _ _ _ ⟨k,lv,ML,U,O,cu,rfl,⟨hk,X,hF⟩,rfl,rfl⟩;refine A0<|Zv (Av Y Y)<|A4<|Zq<|Au Y (fun l9=>?_) (fun l9=>?_)
 ·
  obtain ⟨c,hc⟩:∃c,cs[k]?=some c:=⟨_,B4 A1⟩;have ax:=ek c (DE hc)
  have ve:=bU ax;obtain ⟨g,off,cur,T,zz,rfl,o9,ql,gm⟩:=kv k c hc;refine AC<|Zx<|Zq<|AQ<|A0<|BX (Ac G4 C3 Y Y A1)<|CQ (Gs Wo (o9)) (AA (cs:=c.A28) Ft C3 Y A1 (by exact gm)) V rfl ?_;refine Ze (Al LN #[_,_,_,_,_,_,_,_,_,_])<|AD fun bc=>Xe (Xw C3 c.A28) ?_;refine A4<|Zq<|Az (n:=4) (0::1::0::7::[]) 10 A6 A6 V<|B3 0 V isAgg116 Y ?_;refine E6 2 V Wh (AA (cs:=#[_,_,_,_,_,_,_,_,_,_]) Ft C3 Y Wn (by exact BM V)) ?_;refine Zz (l:=[1])<|B1 [true,false] [(2,(_,_))] V rfl (Zw [_] Y call111 Y V (rH J hq hl X)) ?_ Bz Ai;rintro _ _ ⟨_,⟨lp,cO,sc,jn,rfl,hL,hW,rfl⟩,rfl⟩;refine B5<|Zz (l:=[3])<|B1 [false] [] V rfl (Zw [_,_] Y call112 Y V (kz lp c)) ?_ Bz Ai;rintro _ _ ⟨_,⟨bl,bn,rfl,rfl⟩,rfl⟩;refine B5<|Ah<|Zx<|AQ<|Zb [2,5,7,13,14,15,22] ?_;refine PR (H0:=_) (R:=_) (I:=(fun(pre:List Int) H=>∃G B K,I8 (fun i=>JN qs (cs.take k) i\/(i∈pre/\JN qs [c] i)) G B K/\H=[[(ip,.cells #[.map (some mp),I5 lp] 186 (0,0))],[(mp,.map es ck)],cO,[(mf,.map G B)],[(bf,.cells #[.map (some mf)] 213 (0,0))],[(bx,.cells #[I5 ip] 116 (0,0))],[(bc,.cells c.A28 69 (0,0))]])) (E:=fun x e Hn=>e=[(8,I4 x),(23,I4 x)]/\Hn=[]) rfl Y call184 (l6 hL c (bS ax) A1 (hW.small c.t) bn bl) (by rintro pre _ c1 c2 ⟨qz,qx,vo,h9,rfl⟩;intro q p9;simp [p9]) Y rfl Wp (⟨U,O,cu,hF.cong fun i=>by simp,rfl⟩) ?ha_5 ?hbd_5 ?hk_5
  case ha_5=>
   intro _ x _ _;refine Zg<|AG Y<|Ll (e:=[(8,_),(23,_)]) (Hn:=[]) ?_;exact ⟨V,V⟩
  case hbd_5=>
   intro l pre x qo u e9 qw H1 R1 r9 pz hI j3;obtain ⟨rfl,rfl⟩:=j3;obtain ⟨G,B,K,Z,rfl⟩:=hI;obtain ⟨y,hy,rfl⟩:=qm hW (c:=c) (i:=x) (by rw [pz];simp);have l8:=J.get hy
   have qj:Decidable (JN qs (cs.take k) y.1\/(y.1∈pre/\JN qs [c] y.1)):=Classical.propDecidable _;have l5:=Z.get y.1
   refine AQ<|Zq<|Az (n:=14) (0::0::3::7::15::31::63::127::255::31::1023::31::4095::8191::[]) 4096 A6 A6 V<|B3 0 V isAgg213 Y ?_;refine A2 1 V (AO Y)<|E6 2 V Wh (Db (Ca Cp (D:=fun _=>True)) underlying213 V0 Z.map (fun _ _=>trivial) (trivial) (l5) Y Y) ?_;refine A2 3 V (Cm Y)<|A2 4 V (AO Y)<|CW (t:=28) Y (fun W=>?_) (fun W=>?_)
   ·
    rw [CM W];refine DA 5 V Wh (BO isAgg116 Y AN) ?_;refine AH 6 V (Aq Y V)<|AH 7 V (AB (off:=0) Q1 V rfl dd Y)<|DA 8 V Wh (BO dj Y AN) ?_;refine AH 9 rfl (AO Y)<|DA 10 rfl Wh (Db (Ca Cp (D:=fun _=>True)) cV Mu J.map (fun _ _=>trivial) (trivial) (by rw [l8];first|done|rfl) Y Y) ?_;refine DA 11 V Wh (AA (cs:=c.A28) Ft C3 Y Wn (by exact BM V)) ?_;refine Yw 12 8191 V (Zu [_,_] Y call22 Y V (KW y.2 c)) ?_;rintro _ _ ⟨rfl,rfl⟩;rw [CM (hq y hy),CM ax,Th,Th];refine A2 13 V (AV Y Y)<|Ah<|Zn [5,8,37] ?_;refine Zx<|AX Y (fun af=>?_) (fun af=>?_)
    ·
     have h9:=af;refine Zg<|Zl isAgg213 Y ?_;refine Zm Y<|Ze (F9 (Ca Cp (D:=fun _=>True)) underlying213 Z.map (fun _ _=>trivial) (trivial) Y Y Y Wo) ?_;rintro _ _ ⟨rfl,ic,gB,q9,o8,p8,rfl⟩;refine Z0<|A8<|F3 V (by exact ⟨ic,gB,q9,(Z.put o8 p8).cong (mP J hy h9),V⟩)
    have h9:Co y.2 c=true->JN qs (cs.take k) y.1\/(y.1∈pre/\JN qs [c] y.1):=fun h=>by rw [af]at h;cases h
    refine AC<|A8<|F3 V (by exact ⟨G,B,K,Z.cong (aC J hy h9),V⟩)
   rw [C4 W];have h9:Co y.2 c=true->JN qs (cs.take k) y.1\/(y.1∈pre/\JN qs [c] y.1):=fun _=>HT.1 W
   refine AF 5 V<|AF 6 V<|AF 7 V<|AF 8 V<|AF 9 V<|AF 10 V<|AF 11 V<|AF 12 V<|A2 13 V (AL Y Y)<|Ah<|Zn [5,8,37] ?_;refine Zx<|Ch Y<|AC<|A8<|F3 V (by exact ⟨G,B,K,Z.cong (aC J hy h9),V⟩)
  intro D1 H2 j5;obtain ⟨G,B,K,Z,rfl⟩:=j5;refine Zn [2,5,13,14,15] ?_;refine A8<|A8<|Zx<|Zg<|Ya (n:=1) Y Y<|Zm Y<|Z0<|Zn [15,2,5,13,14] ?_;refine eP (Ds:=Ds) (e':=[(15,_)]) (by exact ⟨k+1,_,cO,G,B,K,V,⟨by omega,.inr ⟨lp,sc,jn,V,hL,hW⟩,Z.cong (sP hW hq hc)⟩,V,V⟩) Wo Wo
 obtain rfl:k=cs.length:=by omega
 rw [G0]at hF;refine Ay<|Zt<|Zt<|AR<|Zx<|Zq ?_;have sJ:=hF.len (qs:=qs) fun i h=>by
  obtain ⟨x,hx,he,_⟩:=h;exact ⟨x,hx,he⟩
 refine Zg<|Zl isAgg213 Y ?_;refine Zc [_] Y call114 Y V (fG mf) ?_;rintro _ _ ⟨_,⟨bk,rfl,rfl⟩,rfl⟩;refine Zc [_] Y call113 Y V (Wj hF.map A1 bk mf (M:=[(mf,.map U O)]) B0) ?_;rintro _ _ ⟨_,⟨zs,s4,gq,gy,pg,rfl⟩,rfl⟩;refine A3 Y<|AJ<|qg (Ds:=Ds) rfl (dK results56 Y) Wo (by exact ⟨zs,s4,lv,ML,fun i=>by rw [gq.mem_iff,hF.mem],gq.nodup_iff.2 hF.map.keys,gy,pg,X,rfl⟩)
theorem RB(b:Nat)(v:Value):BZ prog 86 #[I5 b] [[(b,.cells #[.pointer none,v] 99 (0,0))]] (fun r H'=>r= .tuple #[]/\H'=[[(b,.cells #[I5 b,v] 99 (0,0))]]):=by
 refine Se func86 ntmps86 [0] ?_;intro u R;refine A0<|Zm Y<|Zp Y V<|Zh 0 S3 V rfl sizeOf96 Y<|Zl isAgg96 Y ?_;refine Zv (Jo ef Y Y)<|A4<|AX Y (fun g=>?_) (fun g=>?_)
 ·
  refine Zg<|Zm Y<|Zm Y<|Zo Wh (Yo (c:=#[.pointer none,v]) ef underlying236 (V:Tryz.prog.info? 99=some Tryz.t99) AW (Nat.zero_lt_succ 1) Y) ?_;refine Kh (qQ (vs:=[_]) (e:=Extern.AbiNoEscape.same) func155 A6 A6 A6 A6 Y Y) V rfl ?_;refine Zo Wh (UW underlying236 ef (V:Tryz.prog.info? 99=some Tryz.t99) (show liesAt _ _ _ (2/_) 0 _ 1=true from by kernel_rfl) Y) ?_;refine Zp Y V<|Zh 0 S3 V rfl sizeOf96 Y<|Xe (Zs sizeOf96 Y Y V) ?_;refine Z0<|Cz V results86 (by exact ⟨V,V⟩)
 cases g
theorem M5(b:Nat)(v:Value):BZ prog 86 #[I5 b] [[(b,.cells #[I5 b,v] 99 (0,0))]] (fun r H'=>r= .tuple #[]/\H'=[[(b,.cells #[I5 b,v] 99 (0,0))]]):=by
 refine Se func86 ntmps86 [0] ?_;intro u R;refine A0<|Zm Y<|Zp Y V<|Zh 0 S3 V rfl sizeOf96 Y<|Zl isAgg96 Y ?_;refine Zv (Be ef Y Y)<|A4<|AX Y (fun g=>by cases g)<|fun g=>A0<|Zm Y<|Zp Y V<|Zh 0 S3 V rfl sizeOf96 Y<|Zl isAgg96 Y ?_;refine Zm Y<|Kh (TA ef (V:Tryz.prog.info? 99=some Tryz.t99) Y Y) V rfl ?_;refine A4<|Ch Y<|AC<|Cz V results86 (by exact ⟨V,V⟩)
theorem JP(b:Nat)(v:Value)(l x:List UInt8)(G:List A9)(g:Row 5 v (l.map u8v) G)(h0:0<x.length)(hb:l.length+x.length<=1099511627776):BZ prog 36 #[I5 b,.string (str x)] [[(b,.cells #[.pointer none,v] 99 (0,0))],G] (fun r H'=>∃I B K,Row 5 I ((l++x).map u8v) B/\r=K/\H'=[[(b,.cells #[I5 b,I] 99 (0,0))],B]):=by
 have J:=mL;obtain ⟨Z,W,rfl⟩:=g.form;refine Se func36 ntmps36 [0,1] ?_;intro u R;refine A0<|Za Y<|A3 Y<|A0<|Zm Y<|Zc [_] Y call86 Y V (RB b _) ?_;rintro _ _ ⟨_,⟨rfl,rfl⟩,rfl⟩;refine A4<|A0<|Zm Y<|Zm Y<|Zp Y V<|Zh 1 S3 V rfl OK Y<|Zl S7 Y ?_;refine Zm Y<|Ze (O9 (by_:=1) HD GF (V:Tryz.prog.info? 5=some Tryz.t5) V rfl V rfl Y g Y Wo A1 (by(rw [B2];omega)) (by(rw [B2];omega))) ?_;rintro _ _ ⟨O,m,rfl⟩;obtain ⟨X,U,rfl⟩:=m.form;refine Zp Y V<|Zh 1 S3 V rfl OK Y<|Xe (Zs OK Y Y V) ?_;refine Z0<|Zn [1] ?_;refine Zx<|A0<|Zm Y<|Zv (QA GF Y)<|Za Y<|A3 Y<|AJ<|Cy rfl results36 Y Y (by exact ⟨_,O,_,(by rw [Bm];exact m),rfl,rfl⟩)
theorem PW(b:Nat)(v:Value)(l x:List UInt8)(G:List A9)(g:Row 5 v (l.map u8v) G)(h0:0<x.length)(hb:l.length+x.length<=1099511627776):BZ prog 36 #[I5 b,.string (str x)] [[(b,.cells #[I5 b,v] 99 (0,0))],G] (fun r H'=>∃I B K,Row 5 I ((l++x).map u8v) B/\r=K/\H'=[[(b,.cells #[I5 b,I] 99 (0,0))],B]):=by
 have J:=mL;obtain ⟨Z,W,rfl⟩:=g.form;refine Se func36 ntmps36 [0,1] ?_;intro u R;refine A0<|Za Y<|A3 Y<|A0<|Zm Y<|Zc [_] Y call86 Y V (M5 b _) ?_;rintro _ _ ⟨_,⟨rfl,rfl⟩,rfl⟩;refine A4<|A0<|Zm Y<|Zm Y<|Zp Y V<|Zh 1 S3 V rfl OK Y<|Zl S7 Y ?_;refine Zm Y<|Ze (O9 (by_:=1) HD GF (V:Tryz.prog.info? 5=some Tryz.t5) V rfl V rfl Y g Y Wo A1 (by(rw [B2];omega)) (by(rw [B2];omega))) ?_;rintro _ _ ⟨O,m,rfl⟩;obtain ⟨X,U,rfl⟩:=m.form;refine Zp Y V<|Zh 1 S3 V rfl OK Y<|Xe (Zs OK Y Y V) ?_;refine Z0<|Zn [1] ?_;refine Zx<|A0<|Zm Y<|Zv (QA GF Y)<|Za Y<|A3 Y<|AJ<|Cy rfl results36 Y Y (by exact ⟨_,O,_,(by rw [Bm];exact m),rfl,rfl⟩)
theorem Ny(b g cap:Nat)(p:Value)(l:List UInt8)(cur:Array Value)(z:Nat×Nat)(h0:0<l.length)(hc:cap≠0)(B:l.length<=9223372036854775807)(m:cur.toList.take l.length=l.map u8v):BZ prog 40 #[I5 b] [[(b,.cells #[p,I6 g l.length cap] 99 (0,0))],[(g,.cells cur 5 z)]] (fun r H'=>r= .string (str l)/\H'=[[(b,.cells #[p,I6 g l.length cap] 99 (0,0))]]):=by
 refine Se func40 ntmps40 [0] ?_;intro u R;refine A0<|A3 Y<|Zq<|Az (n:=12) (0::1::3::7::15::0::32::96::224::480::1023::2047::[]) 1040 A6 A6 V<|A2 0 V (AO Y)<|A2 1 V (Aq Y V)<|A2 2 V (AB (off:=1) S3 V rfl OK Y)<|B3 3 V S7 Y ?_;refine A2 5 V (AO Y)<|A2 6 V (Aq Y V)<|A2 7 V (AB (off:=1) S3 V rfl OK Y)<|B3 8 V S7 Y ?_;refine A2 9 V (Aa HD Y)<|Zz (l:=[4])<|B1 [true,false] [(8,(_,_))] V rfl (Xz Y hc) ?_ (fun _ _ h=>h.elim) Ai;rintro _ _ ⟨rfl,rfl⟩;refine B5<|Yw 10 2047 V (Rb (l:=l) underlying173 A6 Y Y (List.ne_nil_of_length_pos h0) B Wo m)<|CT<|A2 11 V (Aw Y)<|Ah<|Zn [2] ?_;refine Zx<|AJ<|AP V results40 Y (by exact ⟨V,V⟩)
def Mr(k:Int):List UInt8:=if k=1 then [114,111,119]else if k=2 then [114,111,119,115]else if k=3 then [99,111,117,110,116]else if k=4 then [115,117,109]else if k=5 then [109,105,110]else if k=6 then [109,97,120]else [106,111,105,110]
def H8(k:Int):List Nat:=if k=1 then [1,3]else if k=2\/k=3 then [1,2,3,4]else if k=7 then [5,6,1,2,3,4]else [5,1,2,3,4]
def XQ(k:Int):Nat:=if k=1 then 82 else if k=2\/k=3 then 83 else if k=7 then 85 else 84
def Ik(k:Int)(i:Int):List UInt8:=if i=1 then(if k=4\/k=5\/k=6 then [111,102]else if k=7 then [116,111]else [])else if i=2/\k=7 then [111,102]else []
def NG(k:Int)(g1 g7:Nat):Value:=if k=7 then .map (some g7)else if k=4\/k=5\/k=6 then .map (some g1)else .map none
def Jt(q:QM)(o:Nat):Int:=if o=1 then q.tb else if o=2 then q.cl else if o=3 then q.lo else if o=4 then q.hi else if o=5 then q.bq else q.ot
def SX(l x:List UInt8):List UInt8:=l++32::x
def Ls(q:QM)(l:List UInt8)(i:Nat):List UInt8:=if Ik q.kd i=[]then l else SX l (Ik q.kd i)
def upP(q:QM):Nat->List UInt8
 |0=>Mr q.kd
 |i+1=>SX (Ls q (upP q i) i) (Lib.itoa (Jt q ((H8 q.kd).getD i 0)))
theorem OA(q:QM)(i:Nat):upP q (i+1)=SX (Ls q (upP q i) i) (Lib.itoa (Jt q ((H8 q.kd).getD i 0))):=rfl
def Cv(q:QM):List UInt8:=upP q (H8 q.kd).length
theorem xQ(k:Int):(H8 k).length<=6:=by
 unfold H8;split
 · decide
 · split
   · decide
   · split<;>decide
theorem xP(k:Int):0<(H8 k).length:=by
 unfold H8;split
 · decide
 · split
   · decide
   · split<;>decide
theorem tL(k:Int):∀o∈H8 k,o<=6:=by
 unfold H8;split
 · decide
 · split
   · decide
   · split<;>decide
theorem tN(k:Int):∀o∈H8 k,1<=o:=by
 unfold H8;split
 · decide
 · split
   · decide
   · split<;>decide
theorem qy:∀(k u:Nat),1<=k->u<10^k->Lib.nDigits u<=k
 |0,_,h,_=>by omega
 |k+1,u,_,h=>by
  by_cases g:u<10
  · rw [Lib.nDigits_small g];omega
  · rw [Lib.nDigits_big g]
    have m:1<=k:=by
     rcases PB k with rfl|h2
     · simp at h;omega
     · exact h2
    have:=qy k (u/10) m (by rw [eN]at h;omega);omega
theorem TS(n:Int)(h:-9223372036854775808<=n/\n<=9223372036854775807):0<(Lib.itoa n).length/\(Lib.itoa n).length<=21:=by
 unfold Lib.itoa;split
 · rw [DH,Lib.decDigits_length]
   have:=qy 20 n.natAbs AW A1;omega
 · rw [Lib.decDigits_length]
   have:=qy 20 n.toNat AW A1;have:=Lib.nDigits_pos n.toNat
   omega
theorem PD(k i:Int):(Ik k i).length<=2:=by
 unfold Ik;split
 · split
   · decide
   · split<;>decide
 · split<;>decide
theorem Xy(k:Int):0<(Mr k).length/\(Mr k).length<=5:=by
 unfold Mr;split
 · decide
 · split
   · decide
   · split
     · decide
     · split
       · decide
       · split
         · decide
         · split<;>decide
theorem KV{q:QM}(g:∀o,-9223372036854775808<=Jt q o/\Jt q o<=9223372036854775807):∀i,0<(upP q i).length/\(upP q i).length<=5+25*i
 |0=>by
  have:=Xy q.kd;unfold upP;omega
 |i+1=>by
  have h:=KV g i;have m:=TS _ (g ((H8 q.kd).getD i 0))
  have h2:=PD q.kd i;unfold upP Ls SX;rw [B7,DH];split
  · omega
  · rw [B7,DH];omega
theorem Oq(q:QM)(l:List UInt8)(i:Nat):(Ls q l i).length<=l.length+3:=by
 have:=PD q.kd i;unfold Ls SX;split
 · omega
 · rw [B7,DH];omega
theorem vP{q:QM}(h:BJ q)(o:Nat):-9223372036854775808<=Jt q o/\Jt q o<=9223372036854775807:=by
 obtain ⟨g,h2,m,B⟩:=h;unfold Jt;split
 · omega
 · split
   · omega
   · split
     · omega
     · split
       · omega
       · split<;>omega
theorem iV(q:QM){o:Nat}(g:1<=o)(h2:o<=6):(q.A30:Array Value)[o]?=some (I4 (Jt q o)):=by
 rcases (by omega:o=1\/o=2\/o=3\/o=4\/o=5\/o=6)with rfl|rfl|rfl|rfl|rfl|rfl<;>rfl
theorem Me(n:Int)(hn:-9223372036854775808<=n/\n<=9223372036854775807)(Tp:TypeId)(zp:Nat×Nat):BI prog 39 #[I4 n] [[(1,.cells (Lib.pow10Tab.map fun z=>Value.int .u64 z).toArray Tp zp)]] (.string (str (Lib.itoa n))):=fun u R w hs=>by
 have hg:=hs.get (1,.cells (Lib.pow10Tab.map fun z=>Value.int .u64 z).toArray Tp zp) B0;refine (Tryz.strconv_Itoa n hn.1 hn.2 w ?_).mono ?_
 · unfold Lib.TabIs World.var?
   rw [show Tryz.prog.globalNamed "internal/strconv.uint64pow10"=some 1 by kernel_rfl];simp only [IF,hg]
 · rintro e w' ⟨rfl,k,os,rfl⟩
   exact .inl ⟨_,_,V,⟨V,V⟩,Ry hs k os⟩
theorem X7{P:Program}{α:Type}{κ:α->Value}{D:α->Prop}{k:α}{env:Env}{d:Option Nat}{ty:TypeId}{pos:String}{af:Array Edge}{g:Option (Nat×Bool)}{t kt G:TypeId}{m x:Operand}{z:Value}(I:Fp P kt κ D)(K:P.underlying t=some (.map kt G))(hz:∀w:World,(zeroValue G).run P w= .ok z w)(J:D k)(O:∀a,ev a env m= .map none)(U:∀a,ev a env x=κ k):
 OpP P ⟨d,.lookup t m x true,ty,pos,af,g⟩ env [] (.tuple #[z,.bool false]):=fun a w W=>by
 show((do pure (Next.value (<-Instr.lookup t (ev a env m) (ev a env x) true))):Sem Next).run P w=_;rw [O a,U a];have B:(Instr.findKey kt (κ k) []).run P w= .ok none w:=by
  rcases Hz I (EQ κ) (fun p h=>by cases h) w k J with⟨B,_⟩|⟨j,v,_,h2⟩
  · exact B
  · simp at h2
 simp only [Instr.lookup,Sem.run_bind,run_underlying K,Result.andThen,Ex I J,Sem.run_pure,B,hz];rfl
theorem jy(bq:Nat):BZ prog 82 #[I5 bq] [] (fun r H'=>∃s,Row 108 r (([1,3]:List Nat).map fun o=> .pointer (some ⟨bq,o,none⟩)) s/\H'=[s]):=by
 refine Se func82 ntmps82 [0] ?_;intro u R;refine A0<|A3 Y<|Zq<|Az (n:=8) (0::1::3::0::8::24::63::127::[]) 64 A6 A6 V<|A2 0 V (AO Y)<|A2 1 V (Aq Y V)<|A2 2 V (AB (off:=1) CA V rfl A5 Y)<|A2 3 V (AO Y)<|A2 4 V (Aq Y V)<|A2 5 V (AB (off:=3) CA V rfl A5 Y)<|Zz (l:=[6])<|B1 [] [] V rfl (Aj (vs:=[_,_]) (cs:=[_,_]) Q2 T0 WD Y V rfl V rfl V) ?_ (fun _ _ h=>h.elim) Ai;rintro _ _ ⟨g,rfl,rfl⟩;refine B5<|A2 7 V (Aw Y)<|Ah<|Zx<|AJ<|AP V results82 Y (by exact ⟨_,JW _ g [.pointer (some ⟨bq,1,none⟩),.pointer (some ⟨bq,3,none⟩)] 2 V AW,V⟩)
theorem IQ(bq:Nat):BZ prog 83 #[I5 bq] [] (fun r H'=>∃s,Row 108 r (([1,2,3,4]:List Nat).map fun o=> .pointer (some ⟨bq,o,none⟩)) s/\H'=[s]):=by
 refine Se func83 ntmps83 [0] ?_;intro u R;refine A0<|A3 Y<|Zq<|Az (n:=14) (0::1::3::0::8::24::0::64::192::0::512::1536::4095::8191::[]) 4096 A6 A6 V<|A2 0 V (AO Y)<|A2 1 V (Aq Y V)<|A2 2 V (AB (off:=1) CA V rfl A5 Y)<|A2 3 V (AO Y)<|A2 4 V (Aq Y V)<|A2 5 V (AB (off:=2) CA V rfl A5 Y)<|A2 6 V (AO Y)<|A2 7 V (Aq Y V)<|A2 8 V (AB (off:=3) CA V rfl A5 Y)<|A2 9 V (AO Y)<|A2 10 V (Aq Y V)<|A2 11 V (AB (off:=4) CA V rfl A5 Y)<|Zz (l:=[12])<|B1 [] [] V rfl (Aj (vs:=[_,_,_,_]) (cs:=[_,_,_,_]) Q2 T0 WD Y V rfl V rfl V) ?_ (fun _ _ h=>h.elim) Ai;rintro _ _ ⟨g,rfl,rfl⟩;refine B5<|A2 13 V (Aw Y)<|Ah<|Zn [2] ?_;refine Zx<|AJ<|AP V results83 Y (by exact ⟨_,JW _ g [.pointer (some ⟨bq,1,none⟩),.pointer (some ⟨bq,2,none⟩),.pointer (some ⟨bq,3,none⟩),.pointer (some ⟨bq,4,none⟩)] 4 V AW,V⟩)
theorem nV(bq:Nat):BZ prog 84 #[I5 bq] [] (fun r H'=>∃s,Row 108 r (([5,1,2,3,4]:List Nat).map fun o=> .pointer (some ⟨bq,o,none⟩)) s/\H'=[s]):=by
 have U:=mL;refine Se func84 ntmps84 [0] ?_;intro u R;refine A0<|A3 Y<|Zq<|Az (n:=8) (0::1::3::7::0::16::63::127::[]) 104 A6 A6 V<|A2 0 V (AO Y)<|A2 1 V (Aq Y V)<|A2 2 V (AB (off:=5) CA V rfl A5 Y)<|A2 4 V (AO Y)<|Zz (l:=[3,5])<|B1 [] [] V rfl (Aj (vs:=[_]) (cs:=[_]) Q2 T0 WD Y V rfl V rfl V) ?_ (fun _ _ h=>h.elim) ?_
 ·
  rintro _ _ ⟨g,rfl,rfl⟩;refine B5<|Zz (l:=[5])<|B1 [] [] V rfl (Zw [_] Y call83 Y V (IQ bq)) ?_ Bz Ai;rintro _ _ ⟨_,⟨s2,B,rfl⟩,rfl⟩;refine ⟨AZ,?_⟩;obtain ⟨O,K,rfl⟩:=B.form;refine Yw 6 127 V (Gm (by_:=8) Q2 (V:Tryz.prog.info? 108=some Tryz.t108) V rfl V rfl Y ((JW _ g [.pointer (some ⟨bq,5,none⟩)] 1 V AW)) Y (B) Wo Wo Fl (by((simp;omega))) (by((simp;done)))) ?_;rintro _ _ ⟨J,m,rfl⟩;obtain ⟨I,G,rfl⟩:=m.form;refine A2 7 V (Aw Y)<|Ah<|Zx<|AJ<|AP V results84 Y (by exact ⟨_,m,V⟩)
 refine B1 [] [] V rfl (Zw [_] Y call83 Y V (IQ bq)) ?_ Bz Ai;rintro _ _ ⟨_,⟨s2,B,rfl⟩,rfl⟩;refine ⟨AZ,?_⟩;obtain ⟨O,K,rfl⟩:=B.form;refine Yw 3 63 V (Aj (vs:=[_]) (cs:=[_]) Q2 T0 WD Y V rfl V rfl V)<|AD fun g=>Yw 6 127 V (Gm (by_:=8) Q2 (V:Tryz.prog.info? 108=some Tryz.t108) V rfl V rfl Y ((JW _ g [.pointer (some ⟨bq,5,none⟩)] 1 V AW)) Y (B) Wo Wo Fl (by((simp;omega))) (by((simp;done)))) ?_;rintro _ _ ⟨J,m,rfl⟩;obtain ⟨I,G,rfl⟩:=m.form;refine A2 7 V (Aw Y)<|Ah<|Zx<|AJ<|AP V results84 Y (by exact ⟨_,m,V⟩)
theorem fI(bq:Nat):BZ prog 85 #[I5 bq] [] (fun r H'=>∃s,Row 108 r (([5,6,1,2,3,4]:List Nat).map fun o=> .pointer (some ⟨bq,o,none⟩)) s/\H'=[s]):=by
 have U:=mL;refine Se func85 ntmps85 [0] ?_;intro u R;refine A0<|A3 Y<|Zq<|Az (n:=11) (0::1::3::0::8::24::63::0::128::511::1023::[]) 832 A6 A6 V<|A2 0 V (AO Y)<|A2 1 V (Aq Y V)<|A2 2 V (AB (off:=5) CA V rfl A5 Y)<|A2 3 V (AO Y)<|A2 4 V (Aq Y V)<|A2 5 V (AB (off:=6) CA V rfl A5 Y)<|A2 7 V (AO Y)<|Zz (l:=[6,8])<|B1 [] [] V rfl (Aj (vs:=[_,_]) (cs:=[_,_]) Q2 T0 WD Y V rfl V rfl V) ?_ (fun _ _ h=>h.elim) ?_
 ·
  rintro _ _ ⟨g,rfl,rfl⟩;refine B5<|Zz (l:=[8])<|B1 [] [] V rfl (Zw [_] Y call83 Y V (IQ bq)) ?_ Bz Ai;rintro _ _ ⟨_,⟨s2,B,rfl⟩,rfl⟩;refine ⟨AZ,?_⟩;obtain ⟨O,K,rfl⟩:=B.form;refine Yw 9 1023 V (Gm (by_:=8) Q2 (V:Tryz.prog.info? 108=some Tryz.t108) V rfl V rfl Y ((JW _ g [.pointer (some ⟨bq,5,none⟩),.pointer (some ⟨bq,6,none⟩)] 2 V AW)) Y (B) Wo Wo Fl (by((simp;omega))) (by((simp;done)))) ?_;rintro _ _ ⟨J,m,rfl⟩;obtain ⟨I,G,rfl⟩:=m.form;refine A2 10 V (Aw Y)<|Ah<|Zx<|AJ<|AP V results85 Y (by exact ⟨_,m,V⟩)
 refine B1 [] [] V rfl (Zw [_] Y call83 Y V (IQ bq)) ?_ Bz Ai;rintro _ _ ⟨_,⟨s2,B,rfl⟩,rfl⟩;refine ⟨AZ,?_⟩;obtain ⟨O,K,rfl⟩:=B.form;refine Yw 6 511 V (Aj (vs:=[_,_]) (cs:=[_,_]) Q2 T0 WD Y V rfl V rfl V)<|AD fun g=>Yw 9 1023 V (Gm (by_:=8) Q2 (V:Tryz.prog.info? 108=some Tryz.t108) V rfl V rfl Y ((JW _ g [.pointer (some ⟨bq,5,none⟩),.pointer (some ⟨bq,6,none⟩)] 2 V AW)) Y (B) Wo Wo Fl (by((simp;omega))) (by((simp;done)))) ?_;rintro _ _ ⟨J,m,rfl⟩;obtain ⟨I,G,rfl⟩:=m.form;refine A2 10 V (Aw Y)<|Ah<|Zx<|AJ<|AP V results85 Y (by exact ⟨_,m,V⟩)
def Te(g1 g7:Nat):List (Int×Value):=[(1,.agg #[.string ⟨#[114,111,119]⟩,.func (.func 82) #[] #[],.map none]),(2,.agg #[.string ⟨#[114,111,119,115]⟩,.func (.func 83) #[] #[],.map none]),(3,.agg #[.string ⟨#[99,111,117,110,116]⟩,.func (.func 83) #[] #[],.map none]),(4,.agg #[.string ⟨#[115,117,109]⟩,.func (.func 84) #[] #[],.map (some g1)]),(5,.agg #[.string ⟨#[109,105,110]⟩,.func (.func 84) #[] #[],.map (some g1)]),(6,.agg #[.string ⟨#[109,97,120]⟩,.func (.func 84) #[] #[],.map (some g1)]),(7,.agg #[.string ⟨#[106,111,105,110]⟩,.func (.func 85) #[] #[],.map (some g7)])]
theorem aD{g m:Nat}(h:∀p,p∈lm↔p∈Te g m)(I:(lm.map (·.1)).Nodup){k:Int}(B:1<=k/\k<=7):EG k lm=some (.agg #[.string (str (Mr k)),.func (.func (XQ k)) #[] #[],NG k g m]):=by
 have G:∀{k:Int} {v:Value},(k,v)∈Te g m->EG k lm=some v:=fun B=>D5 I ((h _).2 B);obtain h9|h9|h9|h9|h9|h9|h9:k=1\/k=2\/k=3\/k=4\/k=5\/k=6\/k=7:=by omega
 all_goals subst h9
 all_goals exact G (by simp [Te,XQ,Mr,NG,str])
structure uw(l1 l7:List (Int×Value)):Prop where
 a:∀p,p∈l1↔p=(1,.string ⟨#[111,102]⟩)
 b:∀p,p∈l7↔p=(2,.string ⟨#[111,102]⟩)\/p=(1,.string ⟨#[116,111]⟩)
theorem Vr(k:Int)(g m:Nat):(NG k g m).oneCell'=true:=by
 unfold NG;split
 · rfl
 · split<;>rfl
theorem qP{env:Env}{d:Option Nat}{ty:TypeId}{pos:String}{af:Array Edge}{g:Option (Nat×Bool)}{m x:Operand}{q:QM}(hq:1<=q.kd/\q.kd<=7){U W:Nat}{e1 e7:Array MapEntry}{c1 c7:Nat}{l1 l7:List (Int×Value)}(h1:Ck (fun n:Int=>Value.int .i64 n) e1 c1 l1)(X:Ck (fun n:Int=>Value.int .i64 n) e7 c7 l7)(J:uw l1 l7){i:Nat}(hx:∀a,ev a env m=NG q.kd U W)(hy:∀a,ev a env x=I4 (i:Int)):
 OpP prog ⟨d,.lookup 91 m x true,ty,pos,af,g⟩ env [(U,.map e1 c1),(W,.map e7 c7)] (.tuple #[.string (str (Ik q.kd i)),.bool (decide (Ik q.kd i≠[]))]):=by
 have hz:=HQ;have hu:=cW
 by_cases B:q.kd=7
 · have cu:∀a,ev a env m= .map (some W):=fun a=>by rw [hx a];unfold NG;rw [AM B]
   have:=E9 (d:=d) (ty:=ty) (pos:=pos) (af:=af) (g:=g) (v0:= .string (str (Ik q.kd i))) (b0:=decide (Ik q.kd i≠[])) (Ca Cp (D:=fun _=>True)) hu hz X (fun _ _=>trivial) trivial (k:=(i:Int)) (by
    unfold Ik;rw [B];by_cases I:(i:Int)=1
    · rw [I,D5 X.keys ((J.b (1,_)).2 (.inr rfl))];exact ⟨rfl,rfl⟩
    · by_cases a2:(i:Int)=2
      · rw [a2,D5 X.keys ((J.b (2,_)).2 (.inl rfl))];exact ⟨rfl,rfl⟩
      · rw [DW fun p Z K=>by rcases (J.b p).1 Z with rfl|rfl<;>simp at K<;>omega,AK I,AK A1];exact ⟨rfl,rfl⟩) cu hy
   exact fun a w O=>this a w fun c hc=>O c (by rw [BT.1 hc];simp)
 · by_cases G:q.kd=4\/q.kd=5\/q.kd=6
   · have bn:∀a,ev a env m= .map (some U):=fun a=>by rw [hx a];unfold NG;rw [AK B,AM G]
     have:=E9 (d:=d) (ty:=ty) (pos:=pos) (af:=af) (g:=g) (v0:= .string (str (Ik q.kd i))) (b0:=decide (Ik q.kd i≠[])) (Ca Cp (D:=fun _=>True)) hu hz h1 (fun _ _=>trivial) trivial (k:=(i:Int)) (by
      unfold Ik;by_cases I:(i:Int)=1
      · rw [AM I,AM G,I,D5 h1.keys ((J.a (1,_)).2 rfl)];exact ⟨rfl,rfl⟩
      · rw [DW fun p Z K=>by rw [(J.a p).1 Z]at K;simp at K;omega,AK I,AK A1];exact ⟨rfl,rfl⟩) bn hy
     exact fun a w O=>this a w fun c hc=>O c (by rw [BT.1 hc];simp)
   · have ax:∀a,ev a env m= .map none:=fun a=>by rw [hx a];unfold NG;rw [AK B,AK G]
     have hg:Ik q.kd i=[]:=by
      unfold Ik;rw [AK G,AK B];split
      · rfl
      · split
        · rename_i h9;exact absurd h9.2 B
        · rfl
     rw [hg];have:=X7 (d:=d) (ty:=ty) (pos:=pos) (af:=af) (g:=g) (Ca Cp (D:=fun _=>True)) hu hz (k:=(i:Int)) trivial ax hy
     exact fun a w O=>this a w fun c hc=>by cases hc
theorem Td:BZ prog 35 #[] [] (fun v H'=>∃b es ck lm g e1 c1 l1 m e7 c7 l7,v= .map (some b)/\Ck (fun n:Int=>Value.int .i64 n) es ck lm/\(∀p,p∈lm↔p∈Te g m)/\Ck (fun n:Int=>Value.int .i64 n) e1 c1 l1/\Ck (fun n:Int=>Value.int .i64 n) e7 c7 l7/\uw l1 l7/\H'=[[(b,.map es ck)],[(g,.map e1 c1)],[(m,.map e7 c7)]]):=by
 refine Se func35 ntmps35 [] ?_;intro u R;refine A0<|A3 Y<|A0<|Ze (DT)<|AD fun g=>Ze (ED (Ca Cp (D:=fun _=>True)) cW (EQ _) (fun _ _=>trivial) (trivial) Y Y Y Wo) ?_;rintro _ _ ⟨rfl,I,B,af,K,W,rfl⟩;refine Zm Y<|A3 Y<|A0<|Ze (DT)<|AD fun mb=>Zv (BL (vs:=[(0,.string ⟨#[114,111,119]⟩),(1,.func (.func 82) #[] #[]),(2,.map none)]) (cs:=#[.string ⟨#[114,111,119]⟩,.func (.func 82) #[] #[],.map none]) Y (AY (pl:=#[(0,1),(1,1),(2,1)]) Up S4 (fun _=>by kernel_rfl) A6))<|Ze (ED (Ca Cp (D:=fun _=>True)) Z3 (EQ _) (fun _ _=>trivial) (trivial) Y Y Y Wo) ?_;rintro _ _ ⟨rfl,qj,pg,r9,cO,ic,rfl⟩;refine Zv (BL (vs:=[(0,.string ⟨#[114,111,119,115]⟩),(1,.func (.func 83) #[] #[]),(2,.map none)]) (cs:=#[.string ⟨#[114,111,119,115]⟩,.func (.func 83) #[] #[],.map none]) Y (AY (pl:=#[(0,1),(1,1),(2,1)]) Up S4 (fun _=>by kernel_rfl) A6))<|Ze (ED (Ca Cp (D:=fun _=>True)) Z3 cO (fun _ _=>trivial) (trivial) Y Y Y Wo) ?_;rintro _ _ ⟨rfl,ql,pq,sj,d9,j3,rfl⟩;refine Zv (BL (vs:=[(0,.string ⟨#[99,111,117,110,116]⟩),(1,.func (.func 83) #[] #[]),(2,.map none)]) (cs:=#[.string ⟨#[99,111,117,110,116]⟩,.func (.func 83) #[] #[],.map none]) Y (AY (pl:=#[(0,1),(1,1),(2,1)]) Up S4 (fun _=>by kernel_rfl) A6))<|Ze (ED (Ca Cp (D:=fun _=>True)) Z3 d9 (fun _ _=>trivial) (trivial) Y Y Y Wo) ?_;rintro _ _ ⟨rfl,qo,pz,sw,ek,j5,rfl⟩;refine Zm Y<|Zv (BL (vs:=[(0,.string ⟨#[115,117,109]⟩),(1,.func (.func 84) #[] #[]),(2,.map (some g))]) (cs:=#[.string ⟨#[115,117,109]⟩,.func (.func 84) #[] #[],.map (some g)]) Y (AY (pl:=#[(0,1),(1,1),(2,1)]) Up S4 (fun _=>by kernel_rfl) A6))<|Ze (ED (Ca Cp (D:=fun _=>True)) Z3 ek (fun _ _=>trivial) (trivial) Y Y Y Wo) ?_;rintro _ _ ⟨rfl,qw,q9,sJ,gm,kv,rfl⟩
 refine Zm Y<|Zv (BL (vs:=[(0,.string ⟨#[109,105,110]⟩),(1,.func (.func 84) #[] #[]),(2,.map (some g))]) (cs:=#[.string ⟨#[109,105,110]⟩,.func (.func 84) #[] #[],.map (some g)]) Y (AY (pl:=#[(0,1),(1,1),(2,1)]) Up S4 (fun _=>by kernel_rfl) A6))<|Ze (ED (Ca Cp (D:=fun _=>True)) Z3 gm (fun _ _=>trivial) (trivial) Y Y Y Wo) ?_;rintro _ _ ⟨rfl,qx,qa,sM,gq,l5,rfl⟩;refine Zm Y<|Zv (BL (vs:=[(0,.string ⟨#[109,97,120]⟩),(1,.func (.func 84) #[] #[]),(2,.map (some g))]) (cs:=#[.string ⟨#[109,97,120]⟩,.func (.func 84) #[] #[],.map (some g)]) Y (AY (pl:=#[(0,1),(1,1),(2,1)]) Up S4 (fun _=>by kernel_rfl) A6))<|Ze (ED (Ca Cp (D:=fun _=>True)) Z3 gq (fun _ _=>trivial) (trivial) Y Y Y Wo) ?_;rintro _ _ ⟨rfl,qz,qb,sO,gy,l8,rfl⟩;refine Ze (DT)<|AD fun m=>Ze (ED (Ca Cp (D:=fun _=>True)) cW (EQ _) (fun _ _=>trivial) (trivial) Y Y Y Wo) ?_;rintro _ _ ⟨rfl,p8,o9,p9,O,X,rfl⟩;refine Ze (ED (Ca Cp (D:=fun _=>True)) cW O (fun _ _=>trivial) (trivial) Y Y Y Wo) ?_;rintro _ _ ⟨rfl,J,G,ax,U,Z,rfl⟩;refine Zm Y<|Zv (BL (vs:=[(0,.string ⟨#[106,111,105,110]⟩),(1,.func (.func 85) #[] #[]),(2,.map (some m))]) (cs:=#[.string ⟨#[106,111,105,110]⟩,.func (.func 85) #[] #[],.map (some m)]) Y (AY (pl:=#[(0,1),(1,1),(2,1)]) Up S4 (fun _=>by kernel_rfl) A6))<|Ze (ED (Ca Cp (D:=fun _=>True)) Z3 gy (fun _ _=>trivial) (trivial) Y Y Y Wo) ?_;rintro _ _ ⟨rfl,cu,bn,o8,gB,l9,rfl⟩;refine Zm Y<|AG Y<|Zn [0] ?_;refine Zx<|AJ<|AP V results35 Y (by
  refine ⟨mb,cu,bn,o8,g,I,B,af,m,J,G,ax,V,gB,fun p=>?_,K,U,⟨fun p=>?_,fun p=>?_⟩,V⟩
  · rw [l9,l8,l5,kv,j5,j3,ic]
    simp only [Te,D2,RT,RC,ff];constructor
    · rintro (rfl|⟨rfl|⟨rfl|⟨rfl|⟨rfl|⟨rfl|⟨rfl,-⟩,-⟩,-⟩,-⟩,-⟩,-⟩)<;>simp
    · rintro (h|h|h|h|h|h|h)<;>subst h<;>simp
  · rw [W];simp
  · rw [Z,X];simp only [RT,ff,RC]
    constructor
    · rintro (rfl|⟨rfl,-⟩)
      · exact .inl rfl
      · exact .inr rfl
    · rintro (rfl|rfl)
      · exact .inl rfl
      · exact .inr ⟨rfl,by simp⟩)
theorem aG{k:Int}(g:1<=k/\k<=7):∀(args:Array Value) (w:World),(callFunc (XQ k) args).run prog w= .ok (.enter (XQ k) args) w:=by
 unfold XQ;split
 · exact call82
 · split
   · exact call83
   · split
     · exact call85
     · exact call84
theorem aF(k:Int)(bq:Nat):BZ prog (XQ k) #[I5 bq] [] (fun r H'=>∃s,Row 108 r ((H8 k).map fun o=> .pointer (some ⟨bq,o,none⟩)) s/\H'=[s]):=by
 unfold XQ H8;split
 · exact jy bq
 · split
   · exact IQ bq
   · split
     · exact fI bq
     · exact nV bq
theorem WC(b:Nat)(v:Value)(l:List UInt8)(G:List A9)(m:Row 5 v (l.map u8v) G)(h0:0<l.length)(I:l.length<=1000000):BZ prog 40 #[I5 b] [[(b,.cells #[I5 b,v] 99 (0,0))],G] (fun r H'=>r= .string (str l)/\H'=[[(b,.cells #[I5 b,v] 99 (0,0))]]):=by
 rcases m with⟨_,B,_⟩|⟨g,cap,cur,z,rfl,rfl,hle,hcm,hcs,htk,hfr⟩
 · simp at B;subst B;simp at h0
 · rw [B2]at hle htk⊢
   exact Ny b g cap _ l cur z h0 A1 A1 htk
theorem RV(b:Nat)(v:Value)(l:List UInt8)(c:UInt8)(G:List A9)(g:Row 5 v (l.map u8v) G)(hb:l.length<=1099511627776):BZ prog 38 #[I5 b,.int .u8 (c.toNat:Int)] [[(b,.cells #[I5 b,v] 99 (0,0))],G] (fun r H'=>∃I B K,Row 5 I ((l++[c]).map u8v) B/\r=K/\H'=[[(b,.cells #[I5 b,I] 99 (0,0))],B]):=by
 have J:=mL;obtain ⟨gv,X,rfl⟩:=g.form;refine Se func38 ntmps38 [0,1] ?_;intro u R;refine A0<|A3 Y<|A0<|Zm Y<|Zc [_] Y call86 Y V (M5 b _) ?_;rintro _ _ ⟨_,⟨rfl,rfl⟩,rfl⟩;refine A4<|A0<|Zm Y<|Zm Y<|Zp Y V<|Zh 1 S3 V rfl OK Y<|Zl S7 Y ?_;refine Zm Y<|Ze (Aj (vs:=[_]) (cs:=[_]) HD I2 S5 Y V rfl V rfl V)<|AD fun U=>Ze (EZ (by_:=1) (news:=[_]) HD (V:Tryz.prog.info? 5=some Tryz.t5) V rfl V rfl Y g Y Wo Wh AN V Fl AW (by(rw [B2];omega)) (by(rw [B2];omega))) ?_;rintro _ _ ⟨O,m,rfl⟩;obtain ⟨Z,W,rfl⟩:=m.form;refine Zp Y V<|Zh 1 S3 V rfl OK Y<|Xe (Zs OK Y Y V) ?_;refine Z0<|Zn [] ?_;refine Zx<|A0<|A3 Y<|AJ<|AP rfl results38 Y (by exact ⟨_,O,_,(by rw [Bm];exact m),rfl,rfl⟩)
theorem K6(b:Nat)(v:Value)(l x:List UInt8)(I:List A9)(g:Row 5 v (l.map u8v) I)(h0:0<x.length)(Z:l.length+x.length<=1000000):BZ prog 37 #[.string (str x),I5 b] [[(b,.cells #[I5 b,v] 99 (0,0))],I] (fun r H'=>∃J m,Row 5 J ((SX l x).map u8v) m/\H'=[[(b,.cells #[I5 b,J] 99 (0,0))],m]):=by
 refine Se func37 ntmps37 [0,1] ?_;intro u R;refine A0<|Zc [_,_] Y call38 Y V (RV b v l 32 I g A1) ?_;rintro _ _ ⟨_,⟨W,s2,K,B,rfl,rfl⟩,rfl⟩;refine A4<|Zg<|Zm Y<|Zc [_,_] Y call36 Y V (PW b W (l++[32]) x s2 B h0 HS) ?_;rintro _ _ ⟨_,⟨X,U,O,G,rfl,rfl⟩,rfl⟩;refine Z0<|Cz rfl results37 (by exact ⟨X,U,by unfold SX;rw [show l++32::x=l++[32]++x by simp];exact G,rfl⟩)
theorem NW(q:QM)(hq:BJ q)(Tp:TypeId)(zp:Nat×Nat):BI prog 11 #[.agg q.A30] [[(1,.cells (Lib.pow10Tab.map fun z=>Value.int .u64 z).toArray Tp zp)]] (.tuple #[.string (str (Cv q)),I4 0]):=by
 have kv:=mL;have hk:1<=q.kd/\q.kd<=7:=by obtain ⟨_,_,_,h⟩:=hq;omega
 have B:=vP hq;have j5:=xQ q.kd
 have gm:=xP q.kd;have gq:=Xy q.kd
 refine Se func11 ntmps11 [0] ?_;intro u R;refine A0<|Ze (Bx #[_,_,_,_,_,_,_])<|AD fun bq=>Za Y<|A3 Y<|Zq<|A0<|Zo Wh (AA (cs:=q.A30) E4 CC Y Wn (by exact BM V)) ?_;refine Xr [_] Y call34 Y V (JY q) ?_;rw [CM hq];refine Zv (Bo Y)<|A4<|AX Y (fun hb=>by cases hb)<|fun hb=>AC<|Zx<|Zq<|Az (n:=6) (0::0::2::7::0::31::[]) 49 A6 A6 V<|A2 1 V (AB (off:=0) CA V rfl A5 Y)<|B3 2 V AE Y ?_;refine Zz (l:=[0,4])<|B1 [true] [(2,(_,_))] V rfl (Zw [] Y call35 Y V (Td)) ?_ Bz ?_
 ·
  rintro _ _ ⟨_,⟨mf,es,ck,lm,g1,e1,c1,l1,g7,e7,c7,l7,rfl,hm,hp,h1,h7,hG,rfl⟩,rfl⟩;refine ⟨Zk (AZ),?_⟩;have af:=aD hp hm.keys hk
  refine E6 3 rfl Wh (Db (Ca Cp (D:=fun _=>True)) Z3 Up hm (fun _ _=>trivial) (trivial) (by rw [af];first|done|rfl) Y Y) ?_;refine Yz 4 0 31 [3,2] [true,true] [(3,(_,_)),(2,(_,_))] V Y V rfl V rfl (EW Up (cs:=#[.string ⟨#[]⟩,.nilFunc,.map none]) A6)<|AD fun bf=>B5<|Yw 5 63 rfl (BK sizeOf93 Y Y (by intro u hu;rcases (by simpa using hu:u=_\/u=_\/u=_)with rfl|rfl|rfl<;>first|rfl|exact Vr _ _ _) Wu (by exact (rfl:_=(#[.string (str (Mr q.kd)),.func (.func (XQ q.kd)) #[] #[],NG q.kd g1 g7]:Array Value))) E3 AW (by exact BA _))<|CT<|Ah<|Zx<|A0<|Ze (Al zeroValue99 #[_,_])<|AD fun b=>Z0<|Zn [1,4,5] ?_;refine Zx<|Zq<|BV<|Zg<|Zh 0 S4 V rfl F1 Y<|Zl HB Y ?_;refine Zc [_,_] Y call36 Y V (JP b (.slice none 0 0) [] (Mr q.kd) [] (GU _) gq.1 HS) ?_;rintro _ _ ⟨_,⟨v1,ek,ic,cu,rfl,rfl⟩,rfl⟩;refine A4<|A0<|Zv (Bg (vs:=[]) (us:=[_]) Y Y)<|A3 Y<|Zq<|A0<|Zh 1 S4 V rfl sizeOf90 Y<|Zl isAgg90 Y ?_;refine Zc [_] Y (aG hk) Y V (aF q.kd bq) ?_;rintro _ _ ⟨_,⟨sf,d9,rfl⟩,rfl⟩;rcases d9 with⟨_,h0,_⟩|⟨gf,cf,cur,zf,rfl,rfl,hle,hcm,hcs,htk,hfr⟩
  · exfalso;have h0:=congrArg List.length h0;rw [B2]at h0;simp at h0;simp [h0]at gm
  simp only [B2]at hle htk;simp only [B2];refine Zv (Aa Q2 Y)<|Zm Y<|A4<|AQ<|Zb [26,4,5,6,24,25] ?_;refine BB (e0:=[(26,_)]) (fun m e H=>∃(i:Nat) (Z:Value) (X:List A9),m=(H8 q.kd).length -i/\(i<=(H8 q.kd).length/\Row 5 Z ((upP q i).map u8v) X)/\e=[(26,I4 (i:Int))]/\H=[[(b,.cells #[I5 b,Z] 99 (0,0))],X]) (by exact ⟨0,v1,ek,V,⟨C0 _,cu⟩,V,V⟩) Wp ?_;rintro _ _ _ ⟨i,Z,X,rfl,⟨hi,I⟩,rfl,rfl⟩;refine A0<|Zv (Av Y Y)<|A4<|Zq<|Au Y (fun bn=>?_) (fun bn=>?_)
  ·
   have gB:=KV B i;obtain ⟨o,ho⟩:∃o,(H8 q.kd)[i]?=some o:=⟨_,B4 A1⟩;have W:(H8 q.kd).getD i 0=o:=by rw [Lz,ho];rfl
   have U:=tL q.kd o (DE ho);have O:=tN q.kd o (DE ho)
   have ax:cur[i]?=some (.pointer (some ⟨bq,o,none⟩)):=by
    have h:((H8 q.kd).map fun o=>(.pointer (some ⟨bq,o,none⟩):Value))[i]?=some (.pointer (some ⟨bq,o,none⟩)):=by rw [DM,ho];rfl
    rw [<-htk,HA,AM A1]at h;simpa using h
   have gy:=PD q.kd i;have K:=TS _ (B o)
   refine AC<|Zx<|Zq<|AQ<|A0<|Zm Y<|BX (BQ Q2 T0 Y Y dq)<|Zl isAgg108 Y (hv:=by exact ax) ?_;refine Za Y<|A3 Y<|Zq<|A0<|Zh 2 S4 V rfl sizeOf91 Y<|Zl isAgg91 Y ?_;refine Zm Y<|CQ (cs:=[(g1,.map e1 c1),(g7,.map e7 c7)]) B0 (qP hk h1 h7 hG (i:=i) Y Y) V rfl ?_;refine Zm Y<|Zd Y V<|Zd Y V<|Za Y<|AG Y<|Zn [4,5,6,8,9,10,24,25,26] ?_;refine Zx<|A0<|Zm Y<|A4<|Au Y (fun g=>?_) (fun g=>?_)
   ·
    refine Zg<|Zm Y<|Zm Y<|Zc [_] Y (call37) Y V (K6 b Z (upP q i) (Ik q.kd i) X I (n9.2 g) A1) ?_;rintro _ _ ⟨_,⟨v4,j3,cO,rfl⟩,rfl⟩;refine A4<|Zg<|Zm Y<|Zm Y<|Zp Y V<|Zl AE Y (hv:=by exact iV q O U) ?_;refine Xr [_] Y call39 Y V (Me (Jt q o) (B o) Tp zp) ?_;refine Zc [_] Y (call37) Y V (K6 b _ (Ls q (upP q i) i) (Lib.itoa (Jt q o)) _ (by unfold Ls;(rw [AK g];exact cO)) K.1 (by have:=Oq q (upP q i) i;omega)) ?_;rintro _ _ ⟨_,⟨v5,J,G,rfl⟩,rfl⟩;rw [show SX (Ls q (upP q i) i) (Lib.itoa (Jt q o))=upP q (i+1) from by rw [OA,W]]at G;refine Z0<|A8<|Zx<|Zg<|Ya (n:=1) Y Y<|Zm Y<|Z0<|Zn [26,4,5,6,24,25] ?_;refine Ab (e':=[(26,_)]) (by exact ⟨i+1,v5,J,V,⟨by omega,G⟩,V,V⟩)
   refine AC<|Zx<|Zg<|Zm Y<|Zm Y<|Zp Y V<|Zl AE Y (hv:=by exact iV q O U) ?_;refine Xr [_] Y call39 Y V (Me (Jt q o) (B o) Tp zp) ?_;refine Zc [_] Y (call37) Y V (K6 b _ (Ls q (upP q i) i) (Lib.itoa (Jt q o)) _ (by unfold Ls;(rw [AM (HT.1 g)];exact I)) K.1 (by have:=Oq q (upP q i) i;omega)) ?_;rintro _ _ ⟨_,⟨v5,J,G,rfl⟩,rfl⟩;rw [show SX (Ls q (upP q i) i) (Lib.itoa (Jt q o))=upP q (i+1) from by rw [OA,W]]at G;refine Z0<|A8<|Zx<|Zg<|Ya (n:=1) Y Y<|Zm Y<|Z0<|Zn [26,4,5,6,24,25] ?_;refine Ab (e':=[(26,_)]) (by exact ⟨i+1,v5,J,V,⟨by omega,G⟩,V,V⟩)
  obtain rfl:i=(H8 q.kd).length:=by omega
  refine Ay<|Zt<|Zt<|AR<|Zx<|A0<|Zc [_] Y call40 Y V (WC b Z _ X I (KV B _).1 (by have:=KV B (H8 q.kd).length;omega)) ?_;rintro _ _ ⟨_,⟨rfl,rfl⟩,rfl⟩;refine Za Y<|A3 Y<|AJ<|Cy V results11 Y Y (by exact ⟨V,V⟩)
 refine B1 [true] [(2,(_,_))] V rfl (EW Up (cs:=#[.string ⟨#[]⟩,.nilFunc,.map none]) A6) ?_ (fun _ _ h=>h.elim) Ai;rintro _ _ ⟨bf,rfl,rfl⟩;refine B5<|Zz (l:=[0])<|B1 [true] [(2,(_,_))] V rfl (Zw [] Y call35 Y V (Td)) ?_ Bz Ai;rintro _ _ ⟨_,⟨mf,es,ck,lm,g1,e1,c1,l1,g7,e7,c7,l7,rfl,hm,hp,h1,h7,hG,rfl⟩,rfl⟩;refine ⟨Zk (AZ),?_⟩;have af:=aD hp hm.keys hk
 refine E6 3 rfl Wh (Db (Ca Cp (D:=fun _=>True)) Z3 Up hm (fun _ _=>trivial) (trivial) (by rw [af];first|done|rfl) Y Y) ?_;refine Yw 5 63 rfl (BK sizeOf93 Y Y (by intro u hu;rcases (by simpa using hu:u=_\/u=_\/u=_)with rfl|rfl|rfl<;>first|rfl|exact Vr _ _ _) Wu (by exact (rfl:_=(#[.string (str (Mr q.kd)),.func (.func (XQ q.kd)) #[] #[],NG q.kd g1 g7]:Array Value))) E3 AW (by exact BA _))<|CT<|Ah<|Zx<|A0<|Ze (Al zeroValue99 #[_,_])<|AD fun b=>Z0<|Zn [1,4,5] ?_;refine Zx<|Zq<|BV<|Zg<|Zh 0 S4 V rfl F1 Y<|Zl HB Y ?_;refine Zc [_,_] Y call36 Y V (JP b (.slice none 0 0) [] (Mr q.kd) [] (GU _) gq.1 HS) ?_;rintro _ _ ⟨_,⟨v1,ek,ic,cu,rfl,rfl⟩,rfl⟩;refine A4<|A0<|Zv (Bg (vs:=[]) (us:=[_]) Y Y)<|A3 Y<|Zq<|A0<|Zh 1 S4 V rfl sizeOf90 Y<|Zl isAgg90 Y ?_;refine Zc [_] Y (aG hk) Y V (aF q.kd bq) ?_;rintro _ _ ⟨_,⟨sf,d9,rfl⟩,rfl⟩;rcases d9 with⟨_,h0,_⟩|⟨gf,cf,cur,zf,rfl,rfl,hle,hcm,hcs,htk,hfr⟩
 · exfalso;have h0:=congrArg List.length h0;rw [B2]at h0;simp at h0;simp [h0]at gm
 simp only [B2]at hle htk;simp only [B2];refine Zv (Aa Q2 Y)<|Zm Y<|A4<|AQ<|Zb [26,4,5,6,24,25] ?_;refine BB (e0:=[(26,_)]) (fun m e H=>∃(i:Nat) (Z:Value) (X:List A9),m=(H8 q.kd).length -i/\(i<=(H8 q.kd).length/\Row 5 Z ((upP q i).map u8v) X)/\e=[(26,I4 (i:Int))]/\H=[[(b,.cells #[I5 b,Z] 99 (0,0))],X]) (by exact ⟨0,v1,ek,V,⟨C0 _,cu⟩,V,V⟩) Wp ?_;rintro _ _ _ ⟨i,Z,X,rfl,⟨hi,I⟩,rfl,rfl⟩;refine A0<|Zv (Av Y Y)<|A4<|Zq<|Au Y (fun bn=>?_) (fun bn=>?_)
 ·
  have gB:=KV B i;obtain ⟨o,ho⟩:∃o,(H8 q.kd)[i]?=some o:=⟨_,B4 A1⟩;have W:(H8 q.kd).getD i 0=o:=by rw [Lz,ho];rfl
  have U:=tL q.kd o (DE ho);have O:=tN q.kd o (DE ho)
  have ax:cur[i]?=some (.pointer (some ⟨bq,o,none⟩)):=by
   have h:((H8 q.kd).map fun o=>(.pointer (some ⟨bq,o,none⟩):Value))[i]?=some (.pointer (some ⟨bq,o,none⟩)):=by rw [DM,ho];rfl
   rw [<-htk,HA,AM A1]at h;simpa using h
  have gy:=PD q.kd i;have K:=TS _ (B o)
  refine AC<|Zx<|Zq<|AQ<|A0<|Zm Y<|BX (BQ Q2 T0 Y Y dq)<|Zl isAgg108 Y (hv:=by exact ax) ?_;refine Za Y<|A3 Y<|Zq<|A0<|Zh 2 S4 V rfl sizeOf91 Y<|Zl isAgg91 Y ?_;refine Zm Y<|CQ (cs:=[(g1,.map e1 c1),(g7,.map e7 c7)]) B0 (qP hk h1 h7 hG (i:=i) Y Y) V rfl ?_;refine Zm Y<|Zd Y V<|Zd Y V<|Za Y<|AG Y<|Zn [4,5,6,8,9,10,24,25,26] ?_;refine Zx<|A0<|Zm Y<|A4<|Au Y (fun g=>?_) (fun g=>?_)
  ·
   refine Zg<|Zm Y<|Zm Y<|Zc [_] Y (call37) Y V (K6 b Z (upP q i) (Ik q.kd i) X I (n9.2 g) A1) ?_;rintro _ _ ⟨_,⟨v4,j3,cO,rfl⟩,rfl⟩;refine A4<|Zg<|Zm Y<|Zm Y<|Zp Y V<|Zl AE Y (hv:=by exact iV q O U) ?_;refine Xr [_] Y call39 Y V (Me (Jt q o) (B o) Tp zp) ?_;refine Zc [_] Y (call37) Y V (K6 b _ (Ls q (upP q i) i) (Lib.itoa (Jt q o)) _ (by unfold Ls;(rw [AK g];exact cO)) K.1 (by have:=Oq q (upP q i) i;omega)) ?_;rintro _ _ ⟨_,⟨v5,J,G,rfl⟩,rfl⟩;rw [show SX (Ls q (upP q i) i) (Lib.itoa (Jt q o))=upP q (i+1) from by rw [OA,W]]at G;refine Z0<|A8<|Zx<|Zg<|Ya (n:=1) Y Y<|Zm Y<|Z0<|Zn [26,4,5,6,24,25] ?_;refine Ab (e':=[(26,_)]) (by exact ⟨i+1,v5,J,V,⟨by omega,G⟩,V,V⟩)
  refine AC<|Zx<|Zg<|Zm Y<|Zm Y<|Zp Y V<|Zl AE Y (hv:=by exact iV q O U) ?_;refine Xr [_] Y call39 Y V (Me (Jt q o) (B o) Tp zp) ?_;refine Zc [_] Y (call37) Y V (K6 b _ (Ls q (upP q i) i) (Lib.itoa (Jt q o)) _ (by unfold Ls;(rw [AM (HT.1 g)];exact I)) K.1 (by have:=Oq q (upP q i) i;omega)) ?_;rintro _ _ ⟨_,⟨v5,J,G,rfl⟩,rfl⟩;rw [show SX (Ls q (upP q i) i) (Lib.itoa (Jt q o))=upP q (i+1) from by rw [OA,W]]at G;refine Z0<|A8<|Zx<|Zg<|Ya (n:=1) Y Y<|Zm Y<|Z0<|Zn [26,4,5,6,24,25] ?_;refine Ab (e':=[(26,_)]) (by exact ⟨i+1,v5,J,V,⟨by omega,G⟩,V,V⟩)
 obtain rfl:i=(H8 q.kd).length:=by omega
 refine Ay<|Zt<|Zt<|AR<|Zx<|A0<|Zc [_] Y call40 Y V (WC b Z _ X I (KV B _).1 (by have:=KV B (H8 q.kd).length;omega)) ?_;rintro _ _ ⟨_,⟨rfl,rfl⟩,rfl⟩;refine Za Y<|A3 Y<|AJ<|Cy V results11 Y Y (by exact ⟨V,V⟩)
end Go.Proofs.YteaiajghbkenoaaGreatDoor
namespace Go.Proofs.YteaiajghbkenoaaGreatDoor
open Go.Proofs.Tryz
open Go Go.RowKit Gw
set_option maxRecDepth 100000
attribute [local irreducible] Gw.At Gw.Nx Gw.Ops
open Go.Sort
theorem uB(xs:List ByteArray):xs.map Value.string=(xs.map fun x=>x.data.toList).map encStr:=by
 rw [K0];rfl
theorem uF(ls:List (List UInt8)):ls.map encStr=(ls.map fun l=>(⟨l.toArray⟩:ByteArray)).map Value.string:=by
 rw [K0];rfl
theorem Rs{v:Value}{zs:List ByteArray}{s:List A9}(hr:Row 9 v (zs.map Value.string) s)(hl:zs.length<=1000000):BZ prog 58 #[v] [s] (fun r H'=>∃(zs':List ByteArray) (s':List A9),r= .tuple #[]/\zs'.Perm zs/\(zs'.Pairwise fun x y=>x.data.toList<=y.data.toList)/\Row 9 v (zs'.map Value.string) s'/\H'=[s']):=fun u R w hs=>by
 obtain ⟨ls,m⟩:∃ls,ls=zs.map fun x=>x.data.toList:=⟨_,rfl⟩;have I:ls.length=zs.length:=by rw [m,B2]
 obtain ⟨G,B⟩:∃G,G=ls.mergeSort fun x y=>decide (x<=y):=⟨_,rfl⟩;have J:G.Perm ls:=by rw [B];exact nB _ _
 have W:G.Pairwise fun x y=>x<=y:=by
  have h:=List.pairwise_mergeSort (le:=fun x y:List UInt8=>decide (x<=y)) (fun a b c h1 h2=>by simp only [G1]at*;exact List.le_trans h1 h2) (fun a b=>by simp only [S0,G1];exact List.le_total a b) ls;rw [B];simpa only [G1]using h
 have O:(G.map fun l=>(⟨l.toArray⟩:ByteArray)).Perm zs:=by
  have h:=J.map fun l=>(⟨l.toArray⟩:ByteArray);rw [m,K0]at h;have e:zs.map ((fun l:List UInt8=>(⟨l.toArray⟩:ByteArray))∘fun x=>x.data.toList)=zs:=by
   conv=>rhs;rw [<-List.map_id zs]
   rfl
  rwa [e]at h
 have U:(G.map fun l=>(⟨l.toArray⟩:ByteArray)).Pairwise fun x y=>x.data.toList<=y.data.toList:=by rw [T7];exact W
 rcases hr with⟨rfl,h0,rfl⟩|⟨g,cap,cur,z,rfl,rfl,hle,hcm,hcs,htk,hfr⟩
 · have hx:zs=[]:=by simpa using h0
   subst hx;refine (Tryz.slices_Sort_string_none none 0 w).mono ?_;rintro e w' ⟨rfl,rfl⟩;exact .inl ⟨_,[[]],V,⟨[],[],V,.refl _,.nil,by simp [GU],V⟩,hs⟩
 · rw [uB,<-m]at htk
   rw [B2]at hle⊢;rw [B2]at htk;have K:Sat u ([(g,.cells cur 9 z)]::R) w:=by simpa using hs
   have Z:=K.get (g,.cells cur 9 z) B0;have hH:=Tc (zs:=ls) Z A1 hfr htk
   have hc:=Tryz.slices_Sort_string g 0 cap ls w hH (HK.1 Z).1 A1;rw [I]at hc;refine hc.mono ?_;rintro e w' ⟨rfl,n,os,rfl⟩;rw [<-B];have X:=J.length_eq
   refine .inl ⟨_,[[(g,.cells (putCells encStr 0 G.toArray cur) 9 z)]],V,⟨_,_,V,O,U,?_,V⟩,by simpa using K.sorted (n:=n) _ os⟩;refine .inr ⟨g,cap,_,z,by rw [B2,B2,X,I],rfl,by rw [B2,B2];omega,hcm,by rw [MU];exact hcs,?_,by rw [MU];exact hfr⟩;rw [<-uF,B2];exact YU _ _ A1
theorem fE(mi:Nat):BZ prog 64 #[.map (some mi)] [] (fun r H'=>∃b,r= .func (.func 122) #[] #[I5 b]/\H'=[[(b,.cells #[.map (some mi)] 118 (0,0))]]):=by
 refine Se func64 ntmps64 [0] ?_;intro u R;refine A0<|Ze (Bx #[_])<|AD fun b=>A3 Y<|A0<|Zv (Bg (vs:=[]) (us:=[_]) Y Y)<|A3 Y<|AJ<|AP V results64 Y (by exact ⟨b,V,V⟩)
variable{es:Array MapEntry}{ck:Nat}{lm:List (ByteArray×Value)}
theorem fF(U:Ck (fun n:ByteArray=>Value.string n) es ck lm)(b mi:Nat):KP prog 122 #[I5 b] [[(b,.cells #[.map (some mi)] 118 (0,0))]] (fun _ s=>(mi,Obj.map es ck)∈s) (fun x:ByteArray=>#[.string x]) (Mk lm) (fun ys=>ys.Perm (lm.map (·.1))):=by
 intro l J W hy s B;refine Se func122 ntmps122 [0,1] ?_;intro u R;refine A0<|Zl Mz Y ?_;refine Ze (LJ N5 Y (FL Wo (W _ s B)))<|AD fun ib=>A4<|AQ<|Zb [0,5] ?_;refine BB (e0:=[]) (fun m e H=>∃(js:List Nat) (seen:Array Nat) (s:List A9),m=lm.length -js.length/\(Im es js seen/\J ((DR lm js).map (·.1)) s)/\e=[]/\H=[[(ib,.mapIter (some mi) ck seen ck)],s]) (by exact ⟨[],#[],s,V,⟨KG _,B⟩,V,V⟩) Wp ?_;rintro _ _ _ ⟨js,seen,s,rfl,⟨I,B⟩,rfl,rfl⟩;have X:=F4 es.size js I.nodup I.lt
 rw [U.size]at X;refine A0<|Ze (NM U I Y Wo (FL Wo (W _ s B))) ?_;rintro _ _ af;rcases af with⟨G,rfl,rfl⟩|⟨jn,pn,seen2,hpn,hjn,hi2,rfl,rfl⟩
 ·
  refine Zd Y V<|A4<|Zq<|AX Y (fun g=>by cases g)<|fun g=>Ay<|Zt<|Zt<|AR<|Cz V results122 (by exact ⟨_,s,G.map _,V,B⟩)
 refine Zd Y V<|A4<|Zq<|AX Y (fun g=>?_) (fun g=>?_)
 ·
  have O:=F4 es.size (js++[jn]) hi2.nodup hi2.lt;rw [U.size,B7,E7]at O;have cu:(js++[jn]).length=js.length+1:=by rw [B7];rfl
  have ax:Mk lm ((DR lm js).map (·.1)++[pn.1]):=by
   have h:=Sr (l:=lm) hi2.nodup (fun j hj=>by rw [<-U.size];exact hi2.lt j hj);rw [Fv lm js hpn,Bm]at h;exact h
  have bn:=hy ((DR lm js).map (·.1)) pn.1 s ax B;refine AC<|Zx<|AQ<|Zq<|Zg ?_;have Z:=W _ s B
  refine CQ (cs:=[(ib,.mapIter (some mi) ck seen2 ck),(mi,.map es ck)]) (by simp [Z]) (JA U hi2 hpn Y) V rfl ?_;refine Zd Y V<|A3 Y<|A0<|Zm Y<|Zm Y<|Ze (GR (vs:=[_]) Y Y (bn) Wp) ?_;rintro _ _ ⟨_,⟨s',rfl,rfl,K⟩,rfl⟩;rw [show(DR lm js).map (·.1)++[pn.1]=(DR lm (js++[jn])).map (·.1) by rw [Fv lm js hpn,Bm];rfl]at K;refine Zv (Bo Y)<|A4<|AX Y (fun g=>by cases g)<|fun g=>AC<|A8<|Zn [0,5] ?_;refine Ab (e':=[]) (by exact ⟨js++[jn],seen2,s',V,⟨hi2,K⟩,V,V⟩)
 cases g
variable{M:List A9}
theorem RD(hm:Ck (fun n:ByteArray=>Value.string n) es ck lm)(hn:lm.length<=1000000)(b mi:Nat)(O:(mi,Obj.map es ck)∈M):BZ prog 201 #[.slice none 0 0,.func (.func 122) #[] #[I5 b]] [[(b,.cells #[.map (some mi)] 118 (0,0))],M] (fun r H'=>∃(zs:List ByteArray) (s':List A9),zs.Perm (lm.map (·.1))/\Row 9 r (zs.map Value.string) s'/\H'=[M,s']):=by
 have af:=mL;refine DL func201 V ntmps201 V ?_;intro u R;refine Zb [0,1] ?_;refine A0<|Ze (Bx #[_])<|AD fun X=>A3 Y<|Zq<|A0<|Zm Y<|A4<|AQ<|Zb [2,6] ?_;refine BV<|Iy (H0:=_) (R:=_) (I:=(fun(pre:List ByteArray) H=>∃m s2,H=[[(X,.cells #[m] 45 (0,0))],s2,M]/\Row 9 m (pre.map Value.string) s2)) (E:=fun x e Hn=>e=[(5,.string x),(7,.string x)]/\Hn=[]) rfl Y call122 (fF hm b mi) (fun pre H1 c d h=>by obtain ⟨m,s2,rfl,_⟩:=h;simp [O]) Y rfl Wp (⟨_,[],rfl,GU _⟩) ?ha_2 ?hbd_2 ?hk_2
 case ha_2=>
  intro _ x _ _;refine Zg<|AG Y<|Ll (e:=[(5,_),(7,_)]) (Hn:=[]) ?_;exact ⟨V,V⟩
 case hbd_2=>
  intro l pre x u e9 W H1 R1 r9 U Z G;obtain ⟨rfl,rfl⟩:=G;obtain ⟨m,s2,rfl,B⟩:=Z;have ax:=U.len
  obtain ⟨gv,cv,rfl⟩:=B.form;refine AQ<|Zg<|Zl Kf Y ?_;refine Zm Y<|Ze (Aj (vs:=[_]) (cs:=[_]) Cd F1 HQ Y V rfl V rfl V)<|AD fun b2=>Ze (EZ (by_:=16) (news:=[_]) Cd (V:Tryz.prog.info? 9=some Tryz.t9) V rfl V rfl Y B Y Wo Wh AN V Fl AW (by(simp only [B2];omega)) (by(simp only [B2];omega))) ?_;rintro _ _ ⟨sq,g,rfl⟩;obtain ⟨gq,cq,rfl⟩:=g.form;refine Xe (Zs HH Y Y V) ?_;refine Z0<|A8<|F3 rfl (by exact ⟨_,_,rfl,by rw [Bm];exact g⟩)
 intro D1 ys H2 K J;obtain ⟨m,s2,rfl,B⟩:=J;refine Zn [2] ?_;refine A8<|Zx<|A0<|Zl Kf Y ?_;refine A3 Y<|AJ<|GI V (dK results201 Y) Wo (by exact ⟨ys,s2,K,B,V⟩)
theorem Ud(m:Ck (fun n:ByteArray=>Value.string n) es ck lm)(B:lm.length<=1000000)(b mi:Nat)(g:(mi,Obj.map es ck)∈M):BZ prog 121 #[.func (.func 122) #[] #[I5 b]] [[(b,.cells #[.map (some mi)] 118 (0,0))],M] (fun r H'=>∃(zs:List ByteArray) (s':List A9),zs.Perm (lm.map (·.1))/\Row 9 r (zs.map Value.string) s'/\H'=[M,s']):=by
 refine Se func121 ntmps121 [0] ?_;intro u R;refine A0<|A3 Y<|A0<|Zm Y<|Zc [_,_] Y call201 Y V (RD m B b mi g) ?_;rintro _ _ ⟨_,⟨zs,s2,G,I,rfl⟩,rfl⟩;refine A3 Y<|AJ<|AP V results121 Y (by exact ⟨zs,s2,G,I,V⟩)
theorem Wi(O:Ck (fun n:ByteArray=>Value.string n) es ck lm)(U:lm.length<=1000000)(b mi:Nat)(g:(mi,Obj.map es ck)∈M):BZ prog 63 #[.func (.func 122) #[] #[I5 b]] [[(b,.cells #[.map (some mi)] 118 (0,0))],M] (fun r H'=>∃(zs:List ByteArray) (s':List A9),zs.Perm (lm.map (·.1))/\(zs.Pairwise fun x y=>x.data.toList<=y.data.toList)/\Row 9 r (zs.map Value.string) s'/\H'=[M,s']):=by
 refine Se func63 ntmps63 [0] ?_;intro u R;refine A0<|A3 Y<|A0<|Zm Y<|Zc [_] Y call121 Y V (Ud O U b mi g) ?_;rintro _ _ ⟨_,⟨zs,s2,K,W,rfl⟩,rfl⟩;have I:=K.length_eq
 rw [B2]at I;refine A3 Y<|A0<|Zm Y<|Zc [_] Y call58 Y V (Rs W A1) ?_;rintro _ _ ⟨_,⟨J,X,rfl,m,G,B,rfl⟩,rfl⟩;refine A4<|A0<|Zm Y<|A3 Y<|AJ<|AP V results63 Y (by exact ⟨J,X,m.trans K,G,B,V⟩)
end Go.Proofs.YteaiajghbkenoaaGreatDoor
namespace Go.Proofs.YteaiajghbkenoaaGreatDoor
open Go.Proofs.Tryz
open Go Go.RowKit Gw
set_option maxRecDepth 100000
attribute [local irreducible] Gw.At Gw.Nx Gw.Ops
structure Bv where
 b:Nat
 key:ByteArray
 te:Int
 sz:Int
structure Bj where
 r:Nat
 E:List Bv
 nx:Nat->Value
 bf:Nat->Value
 cap:Int
 sh:Value
 us:Value
 mv:Value
 fr:Int
def DX(f:Nat->Value)(a:Nat)(v:Value):Nat->Value:=fun x=>if x=a then v else f x
theorem I9(f:Nat->Value)(a:Nat)(v:Value):DX f a v a=v:=AM rfl
variable{x:Nat}
theorem Ea(f:Nat->Value){a:Nat}(v:Value)(h:x≠a):DX f a v x=f x:=AK h
def Bv.ch(nx bf:Nat->Value)(e:Bv):A9:=(e.b,.cells #[.string e.key,I4 e.te,I4 e.sz,bf e.b,nx e.b] 178 (0,0))
def Bj.S(z:Bj):List A9:=(z.r,.cells #[.string ⟨#[]⟩,I4 0,I4 0,z.bf z.r,z.nx z.r,I4 z.cap,z.sh,z.us,z.mv,I4 z.fr] 182 (0,0))::z.E.map (Bv.ch z.nx z.bf)
def Bj.bl(z:Bj):List Nat:=z.r::z.E.map (·.b)
theorem Bj.keys(z:Bj):z.S.map (·.1)=z.bl:=by
 unfold Bj.S Bj.bl;rw [DQ,K0];rfl
theorem Bj.root(z:Bj):(z.r,Obj.cells #[.string ⟨#[]⟩,I4 0,I4 0,z.bf z.r,z.nx z.r,I4 z.cap,z.sh,z.us,z.mv,I4 z.fr] 182 (0,0))∈z.S:=Dd ..
variable{e:Bv}
theorem Bj.node(z:Bj)(g:e∈z.E):(e.b,Obj.cells #[.string e.key,I4 e.te,I4 e.sz,z.bf e.b,z.nx e.b] 178 (0,0))∈z.S:=EV _ (DO (f:=Bv.ch z.nx z.bf) g)
theorem FV{α β:Type}{f:α->β}:∀{l:List α},(l.map f).Nodup->∀{x y:α},x∈l->y∈l->f x=f y->x=y
 |a::l,hn,x,y,hx,hy,e=>by
  rw [DQ,Hi]at hn;rcases D2.1 hx with h1|h1
  · rcases D2.1 hy with h2|h2
    · rw [h1,h2]
    · exact absurd (by rw [<-h1,e];exact DO h2) hn.1
  · rcases D2.1 hy with h2|h2
    · exact absurd (by rw [<-h2,<-e];exact DO h1) hn.1
    · exact FV hn.2 h1 h2 e
theorem Bj.upd(z:Bj)(K:z.bl.Nodup){a:Nat}(B:a∈z.bl):∃c T,(a,Obj.cells c T (0,0))∈z.S/\(c.size=5\/c.size=10)/\∀v,IJ a (.cells (c.setIfInBounds 4 v) T (0,0)) z.S=({z with nx:=DX z.nx a v}:Bj).S/\IJ a (.cells (c.setIfInBounds 3 v) T (0,0)) z.S=({z with bf:=DX z.bf a v}:Bj).S:=by
 have g:(z.r::z.E.map (·.b)).Nodup:=K;rw [Hi]at g;rcases D2.1 B with rfl|B
 · refine ⟨_,_,z.root,.inr rfl,fun v=>?_⟩
   have I:∀e∈z.E,e.b≠z.r:=fun e m h=>g.1 (h▸DO m);constructor<;>
   · unfold IJ Bj.S
     rw [DQ,AM rfl];congr 1
     · simp only [I9];rfl
     · rw [K0]
       refine Vc fun e m=>?_;show(if e.b=z.r then _ else _)=_
       rw [AK (I e m)];unfold Bv.ch;simp only [Ea _ _ (I e m)]
 · obtain ⟨e,m,rfl⟩:=Bk.1 B
   refine ⟨_,_,z.node m,.inl V,fun v=>?_⟩;have J:z.r≠e.b:=fun h=>g.1 (h▸DO m)
   constructor<;>
   · unfold IJ Bj.S
     rw [DQ,AK J];congr 1
     · simp only [Ea _ _ J]
     · rw [K0]
       refine Vc fun e' G=>?_;show(if e'.b=e.b then _ else _)=_
       split
       · rename_i h
         obtain rfl:=FV g.2 G m h;unfold Bv.ch;simp only [I9];rfl
       · rename_i h
         unfold Bv.ch;simp only [Ea _ _ h]
theorem Bj.fr_upd(z:Bj)(B:z.bl.Nodup)(v:Int):IJ z.r (.cells ((#[.string ⟨#[]⟩,I4 0,I4 0,z.bf z.r,z.nx z.r,I4 z.cap,z.sh,z.us,z.mv,I4 z.fr]:Array Value).setIfInBounds 9 (I4 v)) 182 (0,0)) z.S=({z with fr:=v}:Bj).S:=by
 have g:(z.r::z.E.map (·.b)).Nodup:=B;rw [Hi]at g;have G:∀e∈z.E,e.b≠z.r:=fun e m h=>g.1 (h▸DO m)
 unfold IJ Bj.S;rw [DQ,AM rfl];congr 1;rw [K0];refine Vc fun e m=>?_;show(if e.b=z.r then _ else _)=_
 rw [AK (G e m)]
def Ey:Nat->List Nat->Nat->List (Nat×Nat)
 |a,[],c=>[(a,c)]
 |a,b::l,c=>(a,b)::Ey b l c
theorem NY:∀(a:Nat) (l:List Nat),∃A p,∀y,Ey a l y=A++[(p,y)]
 |a,[]=>⟨[],a,fun _=>rfl⟩
 |a,b::l=>by
  obtain ⟨A,p,h⟩:=NY b l;exact ⟨(a,b)::A,p,fun y=>by rw [Ey,h];rfl⟩
theorem dz:∀(l:List Nat) (c:Nat),∃n B,∀x,Ey x l c=(x,n)::B
 |[],c=>⟨c,[],fun _=>rfl⟩
 |b::l,c=>⟨b,Ey b l c,fun _=>rfl⟩
theorem MV:∀(a:Nat) (l:List Nat) (x:Nat) (m:List Nat) (c:Nat),Ey a (l++x::m) c=Ey a l x++Ey x m c
 |a,[],x,m,c=>rfl
 |a,b::l,x,m,c=>by
  show(a,b)::Ey b (l++x::m) c=_;rw [MV b l x m c];rfl
theorem J4:∀(a:Nat) (l:List Nat) (c:Nat),(Ey a l c).map (·.1)=a::l
 |a,[],c=>rfl
 |a,b::l,c=>by rw [Ey,DQ,J4 b l c]
theorem K7:∀(a:Nat) (l:List Nat) (c:Nat),(Ey a l c).map (·.2)=l++[c]
 |a,[],c=>rfl
 |a,b::l,c=>by rw [Ey,DQ,K7 b l c];rfl
def pV(b:Nat):Value:=I5 b
def JL(nx bf:Nat->Value)(r:Nat)(l:List Nat):Prop:=∀q∈Ey r l r,nx q.1=pV q.2/\bf q.2=pV q.1
variable{bf nx:Nat->Value}{r:Nat}
theorem pI(h:nx r=pV r)(h2:bf r=pV r):JL nx bf r []:=fun q g=>by
 obtain rfl:=BT.1 g;exact ⟨h,h2⟩
variable{l:List Nat}
theorem SK(g:(r::l).Nodup):((Ey r l r).map (·.1)).Nodup/\((Ey r l r).map (·.2)).Nodup:=by
 rw [J4,K7];refine ⟨g,?_⟩;rw [Hi]at g;rw [Ge];exact ⟨g.2,by simp,fun x m y B=>by rw [BT.1 B];rintro rfl;exact g.1 m⟩
theorem pJ{l1 l2:List Nat}(U:(r::(l1++x::l2)).Nodup)(h:JL nx bf r (l1++x::l2)):∃p n,p∈r::(l1++l2)/\n∈r::(l1++l2)/\bf x=pV p/\nx x=pV n/\JL (DX nx p (pV n)) (DX bf n (pV p)) r (l1++l2):=by
 obtain ⟨A,p,K⟩:=NY r l1;obtain ⟨n,B,O⟩:=dz l2 r;have e1:Ey r (l1++x::l2) r=A++(p,x)::(x,n)::B:=by rw [MV,K,O];simp
 have e2:Ey r (l1++l2) r=A++(p,n)::B:=by
  cases l2 with
  |nil=>
   have J:=O 0;injection J with h2 h3
   injection h2 with _ h2
   subst h2 h3;rw [DB,K]
  |cons y m=>
   have J:=O 0;injection J with h2 h3
   injection h2 with _ h2
   subst h2;rw [MV,K,<-h3];simp
 obtain ⟨I,d2⟩:=SK U;rw [e1,Bm,DQ,DQ,Ge,Hi,Hi]at I d2;have W:p∈r::(l1++l2):=by
  have:=J4 r (l1++l2) r;rw [e2]at this;rw [<-this];simp
 have g:n∈r::(l1++l2):=by
  have:=K7 r (l1++l2) r;rw [e2]at this;have G:n∈l1++l2++[r]:=by rw [<-this];simp
  rcases BE.1 G with G|G
  · exact EV _ G
  · rw [BT.1 G];exact Dd ..
 refine ⟨p,n,W,g,(h _ (by rw [e1];simp:(p,x)∈_)).2,(h _ (by rw [e1];simp:(x,n)∈_)).1,fun q g=>?_⟩;rw [e2]at g;rcases BE.1 g with g|g
 · have h0:=h q (by rw [e1];simp [g])
   rw [Ea _ _ fun e=>I.2.2 _ (DO g) p (Dd ..) e,Ea _ _ fun e=>d2.2.2 _ (DO g) n (EV _ (Dd ..)) e];exact h0
 · rcases D2.1 g with rfl|g
   · exact ⟨I9 _ _ _,I9 _ _ _⟩
   · have h0:=h q (by rw [e1];simp [g])
     rw [Ea _ _ fun e=>I.2.1.1 (by show p∈_;rw [<-e];exact EV _ (DO g)),Ea _ _ fun e=>d2.2.1.2.1 (by show n∈_;rw [<-e];exact DO g)];exact h0
theorem pK(X:(r::l).Nodup)(J:x∉r::l)(h:JL nx bf r l):∃p,p∈r::l/\bf r=pV p/\JL (DX (DX nx x (pV r)) p (pV x)) (DX (DX bf x (pV p)) r (pV x)) r (l++[x]):=by
 obtain ⟨A,p,U⟩:=NY r l;have e1:=U r
 have e2:Ey r (l++[x]) r=A++(p,x)::[(x,r)]:=by rw [MV,U];simp [Ey]
 obtain ⟨O,d2⟩:=SK X;rw [e1,Bm,Ge]at O d2;have W:p∈r::l:=by
  have:=J4 r l r;rw [e1]at this;rw [<-this];simp
 have I:x≠r:=fun e=>J (by rw [e];exact Dd ..);have K:x≠p:=fun e=>J (by rw [e];exact W)
 refine ⟨p,W,(h _ (by rw [e1];simp:(p,r)∈_)).2,fun q g=>?_⟩;rw [e2]at g;have B:∀q∈A,q.1∈r::l:=fun q g=>by
  rw [<-J4 r l r,e1];exact DO (by simp [g])
 have G:∀q∈A,q.2≠x:=fun q g e=>by
  have m:q.2∈l++[r]:=by rw [<-K7 r l r,e1];exact DO (by simp [g])
  rw [e]at m;rcases BE.1 m with m|m
  · exact J (EV _ m)
  · exact I (BT.1 m)
 rcases BE.1 g with g|g
 · have h0:=h q (by rw [e1];simp [g])
   rw [Ea _ _ fun e=>O.2.2 _ (DO g) p (Dd ..) e,Ea _ _ fun e=>J (by rw [<-e];exact B q g),Ea _ _ fun e=>d2.2.2 _ (DO g) r (Dd ..) e,Ea _ _ (G q g)];exact h0
 · rcases D2.1 g with rfl|g
   · exact ⟨I9 _ _ _,by show DX _ _ _ x=_;rw [Ea _ _ I,I9]⟩
   · obtain rfl:=BT.1 g
     exact ⟨by show DX _ _ _ x=_;rw [Ea _ _ K,I9],I9 _ _ _⟩
theorem gV(r:Nat)(T:TypeId)(zz:Nat×Nat)(g m B W U G I J K O:Value):BZ prog 89 #[I5 r] [[(r,.cells #[g,m,B,W,U,G,I,J,K,O] T (0,0))]] (fun v H'=>v=undef/\H'=[[(r,.cells #[g,m,B,I5 r,I5 r,G,I,J,K,O] T (0,0))]]):=by
 refine Se func89 ntmps89 [0] ?_;intro u R;refine Az (n:=16) (0::0::0::4::12::0::32::96::29::285::797::1821::4095::8191::16383::32767::[]) 34816 A6 A6 V<|A2 0 V (AO Y)<|A2 1 V (AO Y)<|A2 2 V (AO Y)<|A2 3 V (Aq Y V)<|A2 4 V (AB (off:=0) ec V rfl fY Y)<|A2 5 V (AO Y)<|A2 6 V (Aq Y V)<|A2 7 V (AB (off:=0) ec V rfl fY Y)<|A2 8 V (Aq Y V)<|A2 9 V (AB (off:=0) ec V rfl fY Y)<|A2 10 V (AB (off:=3) KB V rfl Hs Y)<|Zz (l:=[11])<|B1 [] [] V rfl (Zs Hs Y Y V) ?_ (fun _ _ h=>h.elim) Ai;rintro _ _ ⟨rfl,rfl⟩;refine B5<|A2 12 V (Aq Y V)<|A2 13 V (AB (off:=0) ec V rfl fY Y)<|A2 14 V (AB (off:=4) KB V rfl Hs Y)<|Zz (l:=[15])<|B1 [] [] V rfl (Zs Hs Y Y V) ?_ (fun _ _ h=>h.elim) Ai;rintro _ _ ⟨rfl,rfl⟩;refine B5<|Ah<|Cz V results89 (by exact ⟨V,V⟩)
theorem Y4(z:Bj)(G:z.bl.Nodup)(B:e∈z.E){p n:Nat}(J:p∈z.bl)(I:n∈z.bl)(g:z.bf e.b=pV p)(m:z.nx e.b=pV n):BZ prog 144 #[.pointer (some ⟨e.b,0,none⟩)] [z.S] (fun v H'=>v=undef/\H'=[({z with nx:=DX z.nx p (pV n),bf:=DX z.bf n (pV p)}:Bj).S]):=by
 obtain ⟨c1,X,K,s1,U⟩:=z.upd G J;obtain ⟨c2,Z,O,s2,W⟩:=Bj.upd ({z with nx:=DX z.nx p (pV n)}:Bj) G I;refine Se func144 ntmps144 [0] ?_;intro u R;refine Az (n:=22) (0::1::3::7::0::16::48::112::0::256::768::1792::0::4096::12288::28672::65535::131071::262143::524287::1048575::2097151::[]) 2359296 A6 A6 V<|A2 0 V (AO Y)<|A2 1 V (Aq Y V)<|A2 2 V (AB (off:=3) KB V rfl Hs Y)<|D8 (D':=15) 3 V rfl V (FL Wo (z.node B)) (BO isAgg176 Y (by exact congrArg some g)) ?_;refine A2 4 V (AO Y)<|A2 5 V (Aq Y V)<|A2 6 V (AB (off:=4) KB V rfl Hs Y)<|D8 (D':=255) 7 V rfl V (FL Wo (z.node B)) (BO isAgg176 Y (by exact congrArg some m)) ?_;refine A2 8 V (AO Y)<|A2 9 V (Aq Y V)<|A2 10 V (AB (off:=4) KB V rfl Hs Y)<|D8 (D':=4095) 11 V rfl V (FL Wo (z.node B)) (BO isAgg176 Y (by exact congrArg some m)) ?_;refine A2 12 V (AO Y)<|A2 13 V (Aq Y V)<|A2 14 V (AB (off:=3) KB V rfl Hs Y)<|D8 (D':=65535) 15 V rfl V (FL Wo (z.node B)) (BO isAgg176 Y (by exact congrArg some g)) ?_;refine A2 16 V (Aq Y V)<|A2 17 V (AB (off:=4) KB V rfl Hs Y)<|Zz (l:=[18])<|B1 [false,false,false,false] [] V rfl (Gj Hs Y Y V Wo (K) (by exact (U _).1) A1 (by exact BA _)) ?_ (fun _ _ h=>h.elim) Ai;rintro _ _ ⟨rfl,rfl⟩;refine B5<|A2 19 V (Aq Y V)<|A2 20 V (AB (off:=3) KB V rfl Hs Y)<|Zz (l:=[21])<|B1 [] [] V rfl (Gj Hs Y Y V Wo (O) (by exact (W _).2) A1 (by exact BA _)) ?_ (fun _ _ h=>h.elim) Ai;rintro _ _ ⟨rfl,rfl⟩;refine B5<|Ah<|Cz V results144 (by exact ⟨V,V⟩)
variable{v:Value}{k:Nat}
theorem Wv{e:TypeId}{xs:List Value}{s:List A9}(h:Row e v xs s){y0:Value}(K:xs[k]?=some y0):∃b cap cur z,v=I6 b xs.length cap/\s=[(b,.cells cur e z)]/\k<cur.size/\IZ z cur.size/\cur[k]?=some y0/\∀y:Value,Row e v (xs.set k y) [(b,.cells (cur.setIfInBounds k y) e z)]:=by
 have I:=(B9.1 K).1;obtain ⟨b,cap,cur,z,hv,J,O,h2,U⟩:=vk h I;refine ⟨b,cap,cur,z,hv,J,O,h2,?_,U⟩;obtain ⟨X,B,G,Z,W,g,_,_,_,m,_⟩:=h.some A1;rw [J]at g;injection g with g _
 injection g with _ g
 injection g with g _
 subst g;rw [<-HG,<-iz I,m];exact K
def FU(L:List Bv)(k:Int):Int:=(L.map fun e=>if e.te=k then e.sz else 0).sum
def LF(L:List Bv):Int:=(L.map (·.sz)).sum
structure Dl(z:Bj)(ns:Nat)(L:List Bv)(mb:Nat)(es:Array MapEntry)(ck:Nat)(lm:List (ByteArray×Value))(su:List A9):Prop where
 sub:∀e∈L,e∈z.E
 ring:JL z.nx z.bf z.r (L.map (·.b))
 mv:z.mv= .map (some mb)
 map:Ck (fun k:ByteArray=>Value.string k) es ck lm
 mem:∀p,p∈lm↔∃e∈L,p=(e.key,pV e.b)
 keys:(L.map (·.key)).Nodup
 used:Row 3 z.us ((List.range ns).map fun k:Nat=>Value.int .i64 (FU L (k:Int))) su
 te:∀e∈L,0<=e.te/\e.te<(ns:Int)
 sz:∀e∈L,1<=e.sz
 free:z.fr=z.cap -LF L
 room:0<=z.fr
 sh:∃a c,z.sh= .slice a ns c
 cap:1<=z.cap/\z.cap<=1000000
theorem Rc(A B:List Bv)(k:Int):FU (A++B) k=FU A k+FU B k:=by unfold FU;rw [Bm,nq]
theorem Pb(e:Bv)(L:List Bv)(k:Int):FU (e::L) k=(if e.te=k then e.sz else 0)+FU L k:=by unfold FU;rw [DQ,gi]
theorem LP(A B:List Bv):LF (A++B)=LF A+LF B:=by unfold LF;rw [Bm,nq]
theorem Ju(e:Bv)(L:List Bv):LF (e::L)=e.sz+LF L:=by unfold LF;rw [DQ,gi]
theorem NN:∀{L:List Bv},(∀e∈L,1<=e.sz)->∀k,0<=FU L k/\FU L k<=LF L
 |[],_,k=>by unfold FU LF;simp
 |e::L,h,k=>by
  have m:=NN (fun x g=>h x (EV _ g)) k;have h2:=h e (Dd ..)
  rw [Pb,Ju];split<;>omega
variable{ns:Nat}
theorem VJ(f g:Nat->Value)(B:k<ns)(hv:g k=v)(m:∀i,i<ns->i≠k->g i=f i):((List.range ns).map f).set k v=(List.range ns).map g:=by
 apply Ln;intro i;rw [Sf,B2,ar,DM,DM];by_cases hi:i<ns
 · rw [X2 hi]
   by_cases e:k=i
   · subst e;rw [AM rfl,AM hi,<-hv];rfl
   · rw [AK e];exact congrArg some (m i hi (cU e)).symm
 · rw [AK (by omega:¬k=i),LS HS];rfl
variable{z:Bj}{L:List Bv}{mb ck:Nat}{es:Array MapEntry}{lm:List (ByteArray×Value)}{su:List A9}
theorem Dl.nodup(h:Dl z ns L mb es ck lm su)(B:z.bl.Nodup):(z.r::L.map (·.b)).Nodup:=by
 have g:(z.r::z.E.map (·.b)).Nodup:=B;rw [Hi]at g⊢;refine ⟨fun J=>?_,?_⟩
 · obtain ⟨e,G,m⟩:=Bk.1 J
   exact g.1 (m▸DO (h.sub e G))
 · have I:=T7.1 h.keys
   refine T7.2 (I.imp_of_mem fun{a b} ha m hne e=>hne ?_);rw [FV g.2 (h.sub a ha) (h.sub b m) e]
theorem Dl.use(h:Dl z ns L mb es ck lm su)(k:Int):0<=FU L k/\FU L k<=1000000:=by
 have g:=NN h.sz k;have h2:=h.free;have m:=h.room;have B:=h.cap
 omega
theorem Dl.size(h:Dl z ns L mb es ck lm su)(m:e∈L):1<=e.sz/\e.sz<=1000000:=by
 obtain ⟨A,B,rfl⟩:=aq m;have G:=LP A (e::B)
 rw [Ju]at G;have O:=(NN (fun x g=>h.sz x (DP _ g):∀x∈A,1<=x.sz) 0)
 have U:=(NN (fun x g=>h.sz x (Fm _ (EV _ g)):∀x∈B,1<=x.sz) 0);have h2:=h.free;have I:=h.room;have J:=h.cap;have K:=h.sz e m
 omega
theorem Dl.get(h:Dl z ns L mb es ck lm su)(g:e∈L):EG e.key lm=some (pV e.b):=D5 h.map.keys ((h.mem _).2 ⟨e,g,rfl⟩)
theorem Dl.none{z:Bj}{ns:Nat}{L:List Bv}{mb:Nat}{es:Array MapEntry}{ck:Nat}{lm:List (ByteArray×Value)}{su:List A9}(h:Dl z ns L mb es ck lm su){K:ByteArray}(g:∀e∈L,e.key≠K):EG K lm=none:=DW fun p B=>by
 obtain ⟨e,m,rfl⟩:=(h.mem p).1 B;exact g e m
variable{L2 L1:List Bv}
theorem dU(h:Dl z ns (L1++e::L2) mb es ck lm su)(hr:JL nx bf z.r ((L1++L2).map (·.b))){J:Array MapEntry}{I:Nat}{G:List (ByteArray×Value)}
 (hm:Ck (fun k:ByteArray=>Value.string k) J I G)(hp:∀p,p∈G↔p∈lm/\p.1≠e.key)(hk:e.te=(k:Int)){O:List A9}(X:Row 3 z.us (((List.range ns).map fun i:Nat=>Value.int .i64 (FU (L1++e::L2) (i:Int))).set k (I4 (FU (L1++e::L2) (k:Int)+(-1)*e.sz))) O):
 Dl {z with nx:=nx,bf:=bf,fr:=z.fr -(-1)*e.sz} ns (L1++L2) mb J I G O:=by
 have B:∀x∈L1++L2,x∈L1++e::L2:=fun x g=>by
  rcases BE.1 g with g|g
  · exact DP _ g
  · exact Fm _ (EV _ g)
 have U:k<ns:=by have:=(h.te e B0).2;omega
 have K:∀i:Int,FU (L1++e::L2) i=FU (L1++L2) i+if e.te=i then e.sz else 0:=fun i=>by
  rw [Rc,Pb,Rc];omega
 have m:=h.keys;rw [Bm,DQ,Ge,Hi]at m;have W:∀x∈L1++L2,x.key≠e.key:=fun x g=>by
  rcases BE.1 g with g|g
  · exact m.2.2 _ (DO g) _ (Dd ..)
  · exact fun hh=>m.2.1.1 (hh▸DO g)
 have h1:=h.sz e B0;have h2:=h.room
 have Z:=h.free;rw [LP,Ju]at Z;refine ⟨fun x g=>h.sub x (B x g),hr,h.mv,hm,fun p=>?_,?_,?_,fun x g=>h.te x (B x g),fun x g=>h.sz x (B x g),?_,?_,h.sh,h.cap⟩
 · rw [hp,h.mem]
   constructor
   · rintro ⟨⟨x,g,rfl⟩,hn⟩
     rcases BE.1 g with g|g
     · exact ⟨x,DP _ g,rfl⟩
     · rcases D2.1 g with rfl|g
       · exact absurd rfl hn
       · exact ⟨x,Fm _ g,rfl⟩
   · rintro ⟨x,g,rfl⟩
     exact ⟨⟨x,B x g,V⟩,W x g⟩
 · rw [Bm,Ge]
   exact ⟨m.1,m.2.1.2,fun a ha b hb=>m.2.2 a ha b (EV _ hb)⟩
 · rw [VJ (v:=I4 (FU (L1++e::L2) (k:Int)+(-1)*e.sz)) (fun i:Nat=>Value.int .i64 (FU (L1++e::L2) (i:Int))) (fun i:Nat=>Value.int .i64 (FU (L1++L2) (i:Int))) U (by show Value.int .i64 _=Value.int .i64 _;rw [K,AM hk];congr 1;omega) (fun i _ hi=>by
    show Value.int .i64 _=Value.int .i64 _;rw [K,AK A1];congr 1;omega)]at X
   exact X
 · show z.fr -(-1)*e.sz=z.cap -_
   rw [LP];omega
 · show 0<=z.fr -(-1)*e.sz
   omega
theorem Sg(h:Dl z ns L mb es ck lm su)(hr:JL nx bf z.r ((L++[e]).map (·.b))){I:Array MapEntry}{G:Nat}{B:List (ByteArray×Value)}
 (U:∀x∈L,x.key≠e.key)(hm:Ck (fun k:ByteArray=>Value.string k) I G B)(hp:∀p,p∈B↔p=(e.key,pV e.b)\/(p∈lm/\p.1≠e.key))(hk:e.te=(k:Int))(O:k<ns)(hs:1<=e.sz/\e.sz<=z.fr){K:List A9}(W:Row 3 z.us (((List.range ns).map fun i:Nat=>Value.int .i64 (FU L (i:Int))).set k (I4 (FU L (k:Int)+1*e.sz))) K):
 Dl {z with E:=z.E++[e],nx:=nx,bf:=bf,fr:=z.fr -1*e.sz} ns (L++[e]) mb I G B K:=by
 have J:∀i:Int,FU (L++[e]) i=FU L i+if e.te=i then e.sz else 0:=fun i=>by
  rw [Rc,Pb];unfold FU;simp
 have h3:=h.free;have m:∀{Q:Bv->Prop},(∀x∈L,Q x)->Q e->∀x∈L++[e],Q x:=fun X h2 x g=>by
  rcases BE.1 g with g|g
  · exact X x g
  · rw [BT.1 g];exact h2
 refine ⟨m (fun x g=>DP _ (h.sub x g)) (Fm _ (BT.2 V)),hr,h.mv,hm,fun p=>?_,?_,?_,m h.te ⟨by omega,by omega⟩,m h.sz hs.1,?_,?_,h.sh,h.cap⟩
 · rw [hp,h.mem]
   constructor
   · rintro (rfl|⟨⟨x,g,rfl⟩,_⟩)
     · exact ⟨e,by simp,rfl⟩
     · exact ⟨x,DP _ g,rfl⟩
   · rintro ⟨x,g,rfl⟩
     rcases BE.1 g with g|g
     · exact .inr ⟨⟨x,g,rfl⟩,U x g⟩
     · rw [BT.1 g];exact .inl rfl
 · rw [Bm,Ge]
   refine ⟨h.keys,by simp,fun a Z b hb=>?_⟩;obtain ⟨x,g,rfl⟩:=Bk.1 Z;obtain rfl:=BT.1 hb;exact U x g
 · rw [VJ (v:=I4 (FU L (k:Int)+1*e.sz)) (fun i:Nat=>Value.int .i64 (FU L (i:Int))) (fun i:Nat=>Value.int .i64 (FU (L++[e]) (i:Int))) O (by show Value.int .i64 _=Value.int .i64 _;rw [J,AM hk];congr 1;omega) (fun i _ hi=>by
    show Value.int .i64 _=Value.int .i64 _;rw [J,AK A1];congr 1;omega)]at W
   exact W
 · show z.fr -1*e.sz=z.cap -_
   rw [LP,Ju];unfold LF at*;simp;omega
 · show 0<=z.fr -1*e.sz
   omega
theorem Qn(z:Bj)(g:z.bl.Nodup)(G:e∈z.E){p:Nat}(I:p∈z.bl)(m:z.bf z.r=pV p):BZ prog 96 #[.pointer (some ⟨e.b,0,none⟩),.pointer (some ⟨z.r,0,none⟩)] [z.S] (fun v H'=>v=undef/\H'=[({z with nx:=DX (DX z.nx e.b (pV z.r)) p (pV e.b),bf:=DX (DX z.bf e.b (pV p)) z.r (pV e.b)}:Bj).S]):=by
 have B:e.b∈z.bl:=EV _ (DO G);obtain ⟨c1,T1,J,s1,W⟩:=z.upd g B;obtain ⟨c2,T2,K,s2,X⟩:=Bj.upd ({z with bf:=DX z.bf e.b (pV p)}:Bj) g B;obtain ⟨c3,T3,O,s3,Z⟩:=Bj.upd ({z with bf:=DX z.bf e.b (pV p),nx:=DX z.nx e.b (pV z.r)}:Bj) g I;obtain ⟨c4,T4,U,s4,u4⟩:=Bj.upd ({z with bf:=DX z.bf e.b (pV p),nx:=DX (DX z.nx e.b (pV z.r)) p (pV e.b)}:Bj) g (Dd ..);refine Se func96 ntmps96 [0,1] ?_;intro u R;refine A0<|Zm Y<|Zm Y<|Zm Y<|Zp Y V<|Zh 3 KB V rfl Hs Y<|CQ (Gs Wo (z.root)) (BO isAgg176 Y (by exact congrArg some m)) V rfl ?_;refine Zm Y<|Zp Y V<|Zh 3 KB V rfl Hs Y<|Xe (Gj Hs Y Y V Wo (J) (by exact (W _).2) A1 (by exact BA _)) ?_;refine Zp Y V<|Zh 4 KB V rfl Hs Y<|Xe (Gj Hs Y Y V Wo (K) (by exact (X _).1) A1 (by exact BA _)) ?_;refine Z0<|Zn [0,1] ?_;refine Zx<|Zg<|Zm Y<|Zp Y V<|Zh 3 KB V rfl Hs Y<|CQ (Gs Wo ((Bj.node ({z with bf:=DX z.bf e.b (pV p),nx:=DX z.nx e.b (pV z.r)}:Bj) G))) (BO isAgg176 Y (by exact congrArg some (I9 _ _ _))) V rfl ?_;refine Zm Y<|Zm Y<|Zm Y<|Zp Y V<|Zh 4 KB V rfl Hs Y<|Xe (Gj Hs Y Y V Wo (O) (by exact (Z _).1) A1 (by exact BA _)) ?_;refine Zp Y V<|Zh 3 KB V rfl Hs Y<|Xe (Gj Hs Y Y V Wo (U) (by exact (u4 _).2) A1 (by exact BA _)) ?_;refine Z0<|Cz V results96 (by exact ⟨V,V⟩)
theorem Nt(z:Bj)(U:z.bl.Nodup)(G:e∈z.E){sg:Int}(J:sg=1\/sg=-1){xs:List Value}(hu:Row 3 z.us xs su)(X:e.te=(k:Int)){x:Int}(O:xs[k]?=some (I4 x))(bn:-1000000000<=x/\x<=1000000000)(ax:0<=e.sz/\e.sz<=1000000000)(W:-1000000000<=z.fr/\z.fr<=1000000000):BZ prog 97 #[.pointer (some ⟨z.r,0,none⟩),.pointer (some ⟨e.b,0,none⟩),I4 sg] [z.S,su] (fun v H'=>v=undef/\∃B,Row 3 z.us (xs.set k (I4 (x+sg*e.sz))) B/\H'=[({z with fr:=z.fr -sg*e.sz}:Bj).S,B]):=by
 have Z:=(B9.1 O).1;obtain ⟨bu,cu,cur,zu,K,rfl,af,I,g,m⟩:=Wv hu O;have hm:-1000000000<=sg*e.sz/\sg*e.sz<=1000000000:=by rcases J with rfl|rfl<;>omega
 refine Se func97 ntmps97 [0,1,2] ?_;intro u R;refine Zq<|Az (n:=19) (0::1::3::7::0::16::48::112::255::511::0::0::2048::6144::14336::31744::65535::131071::262143::[]) 262144 A6 A6 V<|A2 0 V (AO Y)<|A2 1 V (Aq Y V)<|A2 2 V (AB (off:=7) HN V rfl de Y)<|D8 (D':=15) 3 V rfl V (FL Wo (z.root)) (BO cI Y (by exact congrArg some K)) ?_;refine A2 4 V (AO Y)<|A2 5 V (Aq Y V)<|A2 6 V (AB (off:=1) KB V rfl A5 Y)<|D8 (D':=255) 7 V rfl V (FL Wo (z.node G)) (BO AE Y (by exact congrArg (fun t=>some (Value.int .i64 t)) X)) ?_;refine A2 8 rfl (BQ D0 A5 Y Y (by first|omega|(rw [SM];omega)))<|B3 9 rfl AE Y (hv:=by exact g) ?_;refine A2 10 V (AO Y)<|A2 11 V (AO Y)<|A2 12 V (Aq Y V)<|A2 13 V (AB (off:=2) KB V rfl A5 Y)<|D8 (D':=32767) 14 V rfl V (FL Wo (z.node G)) (BO AE Y AN) ?_
 (refine Dp (D':=65535) 15 (qN Y Y (IntWalk.i64_in _ ?_)) ?_;(focus (omega)))
 (refine Dp (D':=131071) 16 (HV Y Y (IntWalk.i64_in _ ?_)) ?_;(focus (omega)))
 refine A2 17 rfl (BQ D0 A5 Y Y (by first|omega|(rw [SM];omega)))<|Yw 18 524287 rfl (Zs A5 Y Y rfl (hi:=by omega) (hz:=by exact I))<|CT<|Ah<|Zn [0,1,2] ?_;refine Zx<|Az (n:=14) (0::1::3::7::0::0::32::96::224::496::1023::2047::4095::8191::[]) 8192 A6 A6 V<|A2 0 V (AO Y)<|A2 1 V (Aq Y V)<|A2 2 V (AB (off:=9) HN V rfl A5 Y)<|D8 (D':=15) 3 V rfl V (FL Wo (z.root)) (BO AE Y AN) ?_;refine A2 4 V (AO Y)<|A2 5 V (AO Y)<|A2 6 V (Aq Y V)<|A2 7 V (AB (off:=2) KB V rfl A5 Y)<|D8 (D':=511) 8 V rfl V (FL Wo (z.node G)) (BO AE Y AN) ?_
 (refine Dp (D':=1023) 9 (qN Y Y (IntWalk.i64_in _ ?_)) ?_;(focus (omega)))
 (refine Dp (D':=2047) 10 (GG Y Y (IntWalk.i64_in _ ?_)) ?_;(focus (omega)))
 refine A2 11 V (Aq Y V)<|A2 12 V (AB (off:=9) HN V rfl A5 Y)<|Zz (l:=[13])<|B1 [false,false] [] V rfl (Gj A5 Y Y V Wo (z.root) (by exact z.fr_upd U _) Wn (by exact BA _)) ?_ (fun _ _ h=>h.elim) Ai;rintro _ _ ⟨rfl,rfl⟩;refine B5<|Ah<|Cz V results97 (by exact ⟨V,_,m _,V⟩)
theorem mU(z:Bj)(m:z.mv= .map (some mb))(B:Ck (fun k:ByteArray=>Value.string k) es ck lm)(K:ByteArray):BI prog 143 #[.pointer (some ⟨z.r,0,none⟩),.string K] [z.S,[(mb,.map es ck)]] (.tuple #[(EG K lm).getD (.pointer none),.bool (EG K lm).isSome]):=by
 refine Se func143 ntmps143 [0,1] ?_;intro u R;refine A0<|Za Y<|A3 Y<|Zq<|A0<|Zm Y<|Zv (Be lP Y Y)<|A4<|AX Y (fun g=>by cases g)<|fun g=>AC<|Zx<|A0<|Zm Y<|Zp Y V<|Zh 8 HN V rfl fc Y<|CQ (Gs Wo (z.root)) (BO isAgg175 Y (by exact congrArg some m)) V rfl ?_;refine Zm Y<|Zo Wh (E9 (Dj GF (D:=fun _=>True)) ee mA B (fun _ _=>trivial) (trivial) (⟨V,V⟩) Y Y) ?_;refine Zm Y<|Zd Y V<|Zd Y V<|Za Y<|AG Y<|Zn [6,7] ?_;refine Zx<|A0<|Zm Y<|Zm Y<|Za Y<|A3 Y<|AJ<|Cy V results143 Y Y (by exact ⟨V,V⟩)
theorem Uv(g:Dl z ns (L1++e::L2) mb es ck lm su)(Z:z.bl.Nodup):BZ prog 92 #[.pointer (some ⟨z.r,0,none⟩),.pointer (some ⟨e.b,0,none⟩)] [z.S,[(mb,.map es ck)],su] (fun v H'=>v=undef/\∃K G B ek J,K.r=z.r/\K.cap=z.cap/\K.E=z.E/\Dl K ns (L1++L2) mb G B ek J/\H'=[K.S,[(mb,.map G B)],J]):=by
 have he:e∈z.E:=g.sub e B0;have bn:=g.nodup Z
 obtain ⟨p,n,hp,hn,X,cu,m⟩:=pJ (l1:=L1.map (·.b)) (l2:=L2.map (·.b)) (x:=e.b) (by simpa using bn) (by simpa using g.ring);have I:∀q,q∈z.r::(L1.map (·.b)++L2.map (·.b))->q∈z.bl:=fun q O=>by
  rcases D2.1 O with rfl|O
  · exact Dd ..
  · rw [<-Bm]at O
    obtain ⟨x,hx,rfl⟩:=Bk.1 O;exact EV _ (DO (g.sub x (by rcases BE.1 hx with h|h<;>simp [h])))
 rw [<-Bm]at m;have j3:=g.te e B0
 obtain ⟨k,hk⟩:∃k:Nat,e.te=(k:Int):=⟨e.te.toNat,by omega⟩;have af:k<ns:=by omega
 have j5:=g.use (k:Int);have ic:=g.size (e:=e) B0
 have gy:=g.room;have gB:z.fr<=1000000:=by
  have h1:=g.free;have h2:=g.cap;have h3:=NN g.sz 0
  omega
 refine Se func92 ntmps92 [0,1] ?_;intro u R;refine A0<|Zm Y<|Zc [_] Y call144 Y V (Y4 z Z he (I p hp) (I n hn) X cu) ?_;rintro _ _ ⟨_,⟨rfl,rfl⟩,rfl⟩;refine A4<|Zq<|Az (n:=9) (0::1::3::7::0::16::48::112::255::[]) 256 A6 A6 V<|A2 0 V (AO Y)<|A2 1 V (Aq Y V)<|A2 2 V (AB (off:=8) HN V rfl fc Y)<|D8 (D':=15) 3 V rfl V (FL Wo ((Bj.root ({z with nx:=DX z.nx p (pV n),bf:=DX z.bf n (pV p)}:Bj)))) (BO isAgg175 Y (by exact congrArg some g.mv)) ?_;refine A2 4 V (AO Y)<|A2 5 V (Aq Y V)<|A2 6 V (AB (off:=0) KB V rfl F1 Y)<|D8 (D':=255) 7 V rfl V (FL Wo ((Bj.node ({z with nx:=DX z.nx p (pV n),bf:=DX z.bf n (pV p)}:Bj) he))) (BO HB Y AN) ?_;refine Yw 8 511 V (LK (Dj GF (D:=fun _=>True)) ee g.map (fun _ _=>trivial) (trivial) Y Y Wo) ?_;rintro _ _ ⟨rfl,W,U,gm,ax,cO,rfl⟩;refine Ah<|Zx<|Zg<|Zm Y<|Zm Y<|Zc [_,_,_] Y call97 Y rfl (Nt ({z with nx:=DX z.nx p (pV n),bf:=DX z.bf n (pV p)}:Bj) Z he (.inr rfl) g.used hk (k:=k) (x:=FU (L1++e::L2) (k:Int)) (by rw [DM,X2 af];rfl) A1 A1 (by show _<=z.fr/\z.fr<=_;omega)) ?_;rintro _ _ ⟨_,⟨rfl,gq,d9,rfl⟩,rfl⟩;refine Z0<|Cz V results92 (by exact ⟨V,({z with nx:=DX z.nx p (pV n),bf:=DX z.bf n (pV p),fr:=z.fr -(-1)*e.sz}:Bj),W,U,gm,gq,V,V,V,dU g m ax cO hk d9,V⟩)
theorem kF(B:Dl z ns (L1++e::L2) mb es ck lm su)(Z:z.bl.Nodup):BZ prog 71 #[.pointer (some ⟨z.r,0,none⟩),.string e.key] [z.S,[(mb,.map es ck)],su] (fun v H'=>v= .bool true/\∃J m g I G,J.r=z.r/\J.cap=z.cap/\J.E=z.E/\Dl J ns (L1++L2) mb m g I G/\H'=[J.S,[(mb,.map m g)],G]):=by
 have hg:=B.get (e:=e) B0;refine Se func71 ntmps71 [0,1] ?_;intro u R;refine A0<|A3 Y<|A0<|Zm Y<|Zm Y<|Xr [_,_] Y call143 Y V (mU z B.mv B.map e.key) ?_;rw [hg,gE];refine Zm Y<|Zd Y V<|Zd Y V<|Za Y<|A3 Y<|Zq<|A0<|Zm Y<|A4<|AX Y (fun K=>?_) (fun K=>?_)
 ·
  refine Zg<|Zm Y<|Zm Y<|Zc [_,_] Y call92 Y V (Uv B Z) ?_;rintro _ _ ⟨_,⟨rfl,J,m,g,I,G,X,W,U,O,rfl⟩,rfl⟩;refine Z0<|Zn [6] ?_;refine Zx<|A0<|Zm Y<|A3 Y<|AJ<|AP V results71 Y (by exact ⟨V,J,m,g,I,G,X,W,U,O,V⟩)
 cases K
theorem vR(B:Dl z ns (L) mb es ck lm su)(hd:z.bl.Nodup)(U:k<ns):BI prog 77 #[.pointer (some ⟨z.r,0,none⟩),I4 (k:Int)] [z.S,[(mb,.map es ck)],su] (I4 (FU L (k:Int))):=by
 obtain ⟨X,Z,cur,zu,g,rfl,W,O,m,I⟩:=Wv B.used (k:=k) (by rw [DM,X2 U];rfl);rw [B2,ar]at g;refine Se func77 ntmps77 [0,1] ?_;intro u R;refine A0<|A3 Y<|Zq<|A0<|Zm Y<|Zv (Be lP Y Y)<|Zm Y<|Ag (t:=7) Y V (fun G=>by cases G)<|fun G=>Zf Y Y<|Yg (Av (n:=0) Y Y)<|Zv (AL Y Y)<|Zm Y<|Am (t:=11) Y V (fun K=>by omega)<|fun K=>Zf Y Y<|Zf Y Y<|Yg (Aq Y V)<|Yf 7 HN V rfl de Y<|Lj Y (Gs Wo (z.root)) (BO cI Y (by exact congrArg some g)) V rfl ?_;refine Yg (Aa D0 Y)<|Yg (Fw Y Y)<|Zv (AL Y Y)<|Z0<|Zn [0,1,19] ?_;refine Zx<|Au Y (fun J=>by omega)<|fun J=>AC<|Zx<|A0<|Zm Y<|Zp Y V<|Zh 7 HN V rfl de Y<|CQ (Gs Wo (z.root)) (BO cI Y (by exact congrArg some g)) V rfl ?_;refine Zm Y<|BX (BQ D0 A5 Y Y A1)<|Zl AE Y (hv:=by exact m) ?_;refine A3 Y<|AJ<|AP V results77 Y (by exact ⟨V,V⟩)
theorem dH{nx' bf':Nat->Value}(h:JL nx bf r l)(B:∀a∈r::l,nx' a=nx a)(h2:∀a∈r::l,bf' a=bf a):JL nx' bf' r l:=fun q m=>by
 have e1:q.1∈r::l:=by rw [<-J4 r l r];exact DO m
 have e2:q.2∈r::l:=by
  have g:q.2∈l++[r]:=by rw [<-K7 r l r];exact DO m
  rcases BE.1 g with g|g
  · exact EV _ g
  · rw [BT.1 g];exact Dd ..
 rw [B _ e1,h2 _ e2];exact h q m
def Bj.more(z:Bj)(e:Bv):Bj:={z with E:=z.E++[e],nx:=DX z.nx e.b (.pointer none),bf:=DX z.bf e.b (.pointer none)}
theorem Bj.more_S(z:Bj)(e:Bv)(g:e.b∉z.S.map (·.1)):z.S++[(e.b,.cells #[.string e.key,I4 e.te,I4 e.sz,.pointer none,.pointer none] 178 (0,0))]=(z.more e).S:=by
 rw [z.keys]at g;have B:z.r≠e.b:=fun h=>g (h▸Dd ..)
 unfold Bj.more Bj.S;simp only [Ea _ _ B,Bm,DQ,IH,PJ];congr 2
 · refine Vc fun x G=>?_
   have m:x.b≠e.b:=fun h=>g (h▸EV _ (DO G));unfold Bv.ch;simp only [Ea _ _ m]
 · unfold Bv.ch
   simp only [I9]
theorem YW(h:Dl z ns L mb es ck lm su)(U:z.bl.Nodup)(e:Bv)(G:e.b∉z.S.map (·.1)):∃p,p∈(z.more e).bl/\(z.more e).bf z.r=pV p/\e∈(z.more e).E/\
 JL (DX (DX (z.more e).nx e.b (pV z.r)) p (pV e.b)) (DX (DX (z.more e).bf e.b (pV p)) z.r (pV e.b)) z.r ((L++[e]).map (·.b)):=by
 rw [z.keys]at G;have m:∀a∈z.r::L.map (·.b),a∈z.bl:=fun a g=>by
  rcases D2.1 g with rfl|g
  · exact Dd ..
  · obtain ⟨x,I,rfl⟩:=Bk.1 g
    exact EV _ (DO (h.sub x I))
 have B:∀a∈z.r::L.map (·.b),a≠e.b:=fun a g W=>G (W▸m a g);obtain ⟨p,J,h2,K⟩:=pK (x:=e.b) (h.nodup U) (fun I=>G (m _ I)) (dH (nx':=(z.more e).nx) (bf':=(z.more e).bf) h.ring (fun a g=>Ea _ _ (B a g)) (fun a g=>Ea _ _ (B a g)));refine ⟨p,?_,h2,Fm _ (BT.2 rfl),by rw [Bm];exact K⟩;have O:=m p J
 unfold Bj.bl Bj.more at*;rcases D2.1 O with h5|h5
 · rw [h5];exact Dd ..
 · refine EV _ ?_
   show p∈(z.E++[e]).map (·.b);rw [Bm];exact DP _ h5
theorem Y6{l:List Int}{i:Nat}{x:Int}(h:l[i]?=some x):(l.take (i+1)).sum=(l.take i).sum+x:=by
 obtain ⟨hi,rfl⟩:=B9.1 h;rw [PF,B4 hi,nq];simp
theorem OE:∀{l:List Int},(∀x∈l,0<=x)->∀i,0<=(l.take i).sum/\(l.take i).sum<=l.sum
 |[],_,i=>by simp
 |x::l,h,0=>by
  have:=OE (fun y g=>h y (EV _ g)) l.length;rw [G0]at this;have m:=h x (Dd ..)
  simp only [Hx,List.sum_nil,gi];omega
 |x::l,h,i+1=>by
  have:=OE (fun y g=>h y (EV _ g)) i;have m:=h x (Dd ..)
  simp only [ju,gi];omega
theorem dS(r:Nat)(cap:Int)(hc:1<=cap/\cap<=1000000)(a:Option Addr)(ns c mb g:Nat)(B:ns<=maxLen):Dl ⟨r,[],fun _=>pV r,fun _=>pV r,cap,.slice a ns c,I6 g ns ns,.map (some mb),cap⟩ ns [] mb #[] 0 [] [(g,.cells (List.replicate ns (Value.int .i64 0)).toArray 3 (0,0))]:=by
 refine ⟨fun e h=>by simp at h,pI V rfl,V,EQ _,fun p=>by simp,ki,?_,fun e h=>by simp at h,fun e h=>by simp at h,?_,?_,⟨a,c,V⟩,hc⟩
 · rw [show(List.range ns).map (fun k:Nat=>Value.int .i64 (FU [] (k:Int)))=List.replicate ns (Value.int .i64 0) from by
    rw [List.eq_replicate_iff];refine ⟨by simp,fun b m=>?_⟩;obtain ⟨k,_,rfl⟩:=Bk.1 m;rfl]
   exact JW _ g _ ns B0 B
 · show cap=cap -LF []
   unfold LF;simp
 · show 0<=cap
   omega
theorem GJ{xs:List Int}{s:List A9}(J:Row 3 v (xs.map (Value.int .i64)) s)(hn:xs.length<=1000000):BZ prog 88 #[v] [s] (fun r H'=>∃g c s2,r= .slice g xs.length c/\Row 3 r (xs.map (Value.int .i64)) s2/\H'=[s2,s]):=by
 have Z:=mL;obtain ⟨W,cv,hv⟩:=J.form;rw [B2]at hv;subst hv;refine Se func88 ntmps88 [0] ?_;intro u R;refine A0<|A3 Y<|Zq<|A0<|Zm Y<|Zv (Dn D0 Y Y)<|A4<|AX Y (fun U=>?_) (fun U=>?_)
 ·
  have K:W=none:=by cases W with
   |none=>rfl
   |some x=>cases U
  subst K;have h0:xs=[]:=by
   rcases J with⟨_,h,_⟩|⟨g,cap,cur,z,h,_⟩
   · simpa using h
   · cases h
  subst h0;refine Zq<|BV<|Zg<|A3 Y<|AJ<|Zt<|AP V results88 Y (by exact ⟨none,0,[],V,GU _,V⟩)
 refine AC<|Zx<|A0<|Ze (EM D0 A5)<|AD fun X=>Zm Y<|Ze (Gm (by_:=8) D0 (rfl:Tryz.prog.info? 3=some Tryz.t3) rfl rfl rfl rfl Y ((JW 3 X [] 0 rfl AW)) Y (J) Wo Wo (by exact fun u hu=>by obtain ⟨x,_,rfl⟩:=Bk.1 hu;rfl) HS HS) ?_;rintro _ _ ⟨O,m,rfl⟩;rw [Ks]at m;have B:=m
 obtain ⟨I,G,rfl⟩:=m.form;refine A3 Y<|AJ<|AP V results88 Y (by exact ⟨I,G,O,by simp,B,V⟩)
theorem lD{sh:List Int}{W:List A9}(G:Row 3 v (sh.map (Value.int .i64)) W)(cap:Int)(hc:1<=cap/\cap<=1000000)(hl:1<=sh.length/\sh.length<=8)(h0:∀x∈sh,0<=x)(X:sh.sum<=cap):BZ prog 42 #[I4 cap,v] [W] (fun r H'=>∃z mb su,r= .tuple #[.pointer (some ⟨z.r,0,none⟩),I4 0]/\z.cap=cap/\Dl z sh.length [] mb #[] 0 [] su/\H'=[z.S,[(mb,.map #[] 0)],su,W]):=by
 have bn:=mL;obtain ⟨pv,cv,hv⟩:=G.form;rw [B2]at hv;subst hv;refine Se func42 ntmps42 [0,1] ?_;intro u R;refine A0<|Za Y<|A3 Y<|Zq<|A0<|Zm Y<|Zv (Dt Y Y)<|Zm Y<|Am (t:=12) Y V (fun Z=>by omega)<|fun Z=>Zf Y Y<|Yg (Er Y Y)<|Zv (AL Y Y)<|Zm Y<|Am (t:=16) Y V (fun g2=>by omega)<|fun g2=>Zf Y Y<|Yg (Aa D0 Y)<|Yg (Av (n:=1) Y Y)<|Zv (AL Y Y)<|Zm Y<|Am (t:=21) Y V (fun g3=>by omega)<|fun g3=>Zf Y Y<|Yg (Aa D0 Y)<|Yg (DJ (n:=8) Y Y)<|Zv (AL Y Y)<|Z0<|Zn [0,1,25] ?_;refine Zx<|Au Y (fun g4=>by omega)<|fun g4=>AC<|Zx<|A0<|Zm Y<|A3 Y<|Zq<|A0<|Zm Y<|Zv (Aa D0 Y)<|Zm Y<|A4<|AQ<|Zb [6,29,0,1,27,28] ?_;refine BB (e0:=[(6,_),(29,_)]) (fun m e H=>∃(i:Nat),m=sh.length -i/\(i<=sh.length)/\e=[(6,I4 (cap -(sh.take i).sum)),(29,I4 (i:Int))]/\H=[]) (by exact ⟨0,V,C0 _,by simp,V⟩) Wp ?_;rintro _ _ _ ⟨i,rfl,hi,rfl,rfl⟩;refine A0<|Zv (Av Y Y)<|A4<|Zq<|Au Y (fun J=>?_) (fun J=>?_)
 ·
  obtain ⟨n,K⟩:∃n,sh[i]?=some n:=⟨_,B4 J⟩;obtain ⟨bs,cs,cur,zs,U,rfl,ax,af,I,_⟩:=Wv G (k:=i) (y0:=I4 n) (by rw [DM,K];rfl);injection U with e1 e2 e3
  subst e1 e3;have cu:=h0 n (DE K)
  have cO:=OE h0 i;have O:=OE h0 (i+1)
  rw [Y6 K]at O;refine AC<|Zx<|Zq<|AQ<|A0<|BX (BQ D0 A5 Y Y A1)<|Zl AE Y (hv:=by exact I) ?_;refine A3 Y<|Zq<|A0<|Zm Y<|Zv (Dt Y Y)<|Zm Y<|Am (t:=35) Y V (fun g5=>by omega)<|fun g5=>Zf Y Y<|Zf Y Y<|Yg (Er Y Y)<|Zv (AL Y Y)<|A4<|Au Y (fun g6=>by omega)<|fun g6=>AC<|Zx<|Zg<|Zm Y<|Zm Y ?_
  (refine BX (GG Y Y (IntWalk.i64_in _ ?_)) ?_;(focus (omega)))
  refine AG Y<|Zn [0,1,6,27,28,29] ?_;refine A8<|Zx<|Zg<|Ya (n:=1) Y Y<|Zm Y<|Z0<|Zn [6,29,0,1,27,28] ?_;refine Ab (e':=[(6,_),(29,_)]) (by exact ⟨i+1,rfl,by omega,by rw [Y6 K,Int.sub_sub],rfl⟩)
 refine Ay<|Zt<|Zt<|AR<|Zx<|Zb [0,1] ?_;refine DK (e0:=[(0,_),(1,_)]) (H0:=[]) (fun e H=>∃(r mb g:Nat) (gc:Option Addr) (cc:Nat),(True)/\e=[(9,I5 r)]/\H=[[(r,.cells #[.string ⟨#[]⟩,I4 0,I4 0,.pointer none,.pointer none,I4 cap,.slice gc sh.length cc,I6 g sh.length sh.length,.map (some mb),I4 cap] 182 (0,0))],[(mb,.map #[] 0)],[(g,.cells (List.replicate sh.length (Value.int .i64 0)).toArray 3 (0,0))]]) Wp ?hx_3 ?hy_3
 case hx_3=>
  refine Az (n:=11) (0::0::2::0::8::24::0::0::255::511::1023::[]) 612 A6 A6 V<|A2 0 V (AO Y)<|A2 1 V (AO Y)<|A2 3 V (AO Y)<|A2 4 V (Aa D0 Y)<|A2 7 V (AO Y)<|Zz (l:=[2,5,6])<|B1 [] [] V rfl (Zw [_] Y call88 Y V (GJ G A1)) ?_ Bz ?_
  ·
   rintro _ _ ⟨_,⟨gc,cc,sc,rfl,B,rfl⟩,rfl⟩;refine B5<|Zz (l:=[5,6])<|B1 [] [] V rfl (Gb (by_:=8) D0 (V:Tryz.prog.info? 3=some Tryz.t3) V rfl V rfl Y Y ?_ ?_ ?_) ?hk_5 (fun _ _ h=>h.elim) ?hl_5
   (focus (omega))
   (focus (omega))
   (focus (omega))
   case hk_5=>
    rintro _ _ ⟨g,rfl,rfl⟩;refine B5<|Yw 6 255 V (DT)<|AD fun mb=>A2 8 V (BL (vs:=[(1,I4 cap),(2,.slice gc sh.length cc),(3,I6 g sh.length sh.length),(4,.map (some mb)),(5,I4 cap)]) (cs:=#[.string ⟨#[]⟩,I4 0,I4 0,.pointer none,.pointer none,I4 cap,.slice gc sh.length cc,I6 g sh.length sh.length,.map (some mb),I4 cap]) Y (AY (pl:=#[(0,5),(5,1),(6,1),(7,1),(8,1),(9,1)]) ep HN (fun _=>by kernel_rfl) A6))<|Yw 9 1023 V (Ep Y (cs:=#[.string ⟨#[]⟩,I4 0,I4 0,.pointer none,.pointer none,I4 cap,.slice gc sh.length cc,I6 g sh.length sh.length,.map (some mb),I4 cap]) A6)<|AD fun r=>A2 10 V (Aw Y)<|Ah<|Zn [9] ?_;refine BN (e':=[(9,_)]) (by exact ⟨r,mb,g,gc,cc,trivial,V,V⟩)
   refine B1 [] [] V rfl (DT) ?_ (fun _ _ h=>h.elim) Ai;rintro _ _ ⟨mb,rfl,rfl⟩;refine B5<|Zz (l:=[5])<|B1 [] [] V rfl (Gb (by_:=8) D0 (V:Tryz.prog.info? 3=some Tryz.t3) V rfl V rfl Y Y ?_ ?_ ?_) ?hk_10 (fun _ _ h=>h.elim) ?hl_10
   (focus (omega))
   (focus (omega))
   (focus (omega))
   case hk_10=>
    rintro _ _ ⟨g,rfl,rfl⟩;refine B5<|A2 8 V (BL (vs:=[(1,I4 cap),(2,.slice gc sh.length cc),(3,I6 g sh.length sh.length),(4,.map (some mb)),(5,I4 cap)]) (cs:=#[.string ⟨#[]⟩,I4 0,I4 0,.pointer none,.pointer none,I4 cap,.slice gc sh.length cc,I6 g sh.length sh.length,.map (some mb),I4 cap]) Y (AY (pl:=#[(0,5),(5,1),(6,1),(7,1),(8,1),(9,1)]) ep HN (fun _=>by kernel_rfl) A6))<|Yw 9 1023 V (Ep Y (cs:=#[.string ⟨#[]⟩,I4 0,I4 0,.pointer none,.pointer none,I4 cap,.slice gc sh.length cc,I6 g sh.length sh.length,.map (some mb),I4 cap]) A6)<|AD fun r=>A2 10 V (Aw Y)<|Ah<|Zn [9] ?_;refine BN (e':=[(9,_)]) (by exact ⟨r,mb,g,gc,cc,trivial,V,V⟩)
   exact Ai
  refine B1 [] [] V rfl (Gb (by_:=8) D0 (V:Tryz.prog.info? 3=some Tryz.t3) V rfl V rfl Y Y ?_ ?_ ?_) ?hk_13 (fun _ _ h=>h.elim) ?hl_13
  (focus (omega))
  (focus (omega))
  (focus (omega))
  case hk_13=>
   rintro _ _ ⟨g,rfl,rfl⟩;refine B5<|Zz (l:=[2,6])<|B1 [] [] V rfl (Zw [_] Y call88 Y V (GJ G A1)) ?_ Bz ?_
   ·
    rintro _ _ ⟨_,⟨gc,cc,sc,rfl,B,rfl⟩,rfl⟩;refine B5<|Yw 6 255 V (DT)<|AD fun mb=>A2 8 V (BL (vs:=[(1,I4 cap),(2,.slice gc sh.length cc),(3,I6 g sh.length sh.length),(4,.map (some mb)),(5,I4 cap)]) (cs:=#[.string ⟨#[]⟩,I4 0,I4 0,.pointer none,.pointer none,I4 cap,.slice gc sh.length cc,I6 g sh.length sh.length,.map (some mb),I4 cap]) Y (AY (pl:=#[(0,5),(5,1),(6,1),(7,1),(8,1),(9,1)]) ep HN (fun _=>by kernel_rfl) A6))<|Yw 9 1023 V (Ep Y (cs:=#[.string ⟨#[]⟩,I4 0,I4 0,.pointer none,.pointer none,I4 cap,.slice gc sh.length cc,I6 g sh.length sh.length,.map (some mb),I4 cap]) A6)<|AD fun r=>A2 10 V (Aw Y)<|Ah<|Zn [9] ?_;refine BN (e':=[(9,_)]) (by exact ⟨r,mb,g,gc,cc,trivial,V,V⟩)
   refine B1 [] [] V rfl (DT) ?_ (fun _ _ h=>h.elim) Ai;rintro _ _ ⟨mb,rfl,rfl⟩;refine B5<|Zz (l:=[2])<|B1 [] [] V rfl (Zw [_] Y call88 Y V (GJ G A1)) ?_ Bz Ai;rintro _ _ ⟨_,⟨gc,cc,sc,rfl,B,rfl⟩,rfl⟩;refine B5<|A2 8 V (BL (vs:=[(1,I4 cap),(2,.slice gc sh.length cc),(3,I6 g sh.length sh.length),(4,.map (some mb)),(5,I4 cap)]) (cs:=#[.string ⟨#[]⟩,I4 0,I4 0,.pointer none,.pointer none,I4 cap,.slice gc sh.length cc,I6 g sh.length sh.length,.map (some mb),I4 cap]) Y (AY (pl:=#[(0,5),(5,1),(6,1),(7,1),(8,1),(9,1)]) ep HN (fun _=>by kernel_rfl) A6))<|Yw 9 1023 V (Ep Y (cs:=#[.string ⟨#[]⟩,I4 0,I4 0,.pointer none,.pointer none,I4 cap,.slice gc sh.length cc,I6 g sh.length sh.length,.map (some mb),I4 cap]) A6)<|AD fun r=>A2 10 V (Aw Y)<|Ah<|Zn [9] ?_;refine BN (e':=[(9,_)]) (by exact ⟨r,mb,g,gc,cc,trivial,V,V⟩)
  refine B1 [] [] V rfl (DT) ?_ (fun _ _ h=>h.elim) Ai;rintro _ _ ⟨mb,rfl,rfl⟩;refine B5<|Zz (l:=[2,5])<|B1 [] [] V rfl (Zw [_] Y call88 Y V (GJ G A1)) ?_ Bz ?_
  ·
   rintro _ _ ⟨_,⟨gc,cc,sc,rfl,B,rfl⟩,rfl⟩;refine B5<|Zz (l:=[5])<|B1 [] [] V rfl (Gb (by_:=8) D0 (V:Tryz.prog.info? 3=some Tryz.t3) V rfl V rfl Y Y ?_ ?_ ?_) ?hk_24 (fun _ _ h=>h.elim) ?hl_24
   (focus (omega))
   (focus (omega))
   (focus (omega))
   case hk_24=>
    rintro _ _ ⟨g,rfl,rfl⟩;refine B5<|A2 8 V (BL (vs:=[(1,I4 cap),(2,.slice gc sh.length cc),(3,I6 g sh.length sh.length),(4,.map (some mb)),(5,I4 cap)]) (cs:=#[.string ⟨#[]⟩,I4 0,I4 0,.pointer none,.pointer none,I4 cap,.slice gc sh.length cc,I6 g sh.length sh.length,.map (some mb),I4 cap]) Y (AY (pl:=#[(0,5),(5,1),(6,1),(7,1),(8,1),(9,1)]) ep HN (fun _=>by kernel_rfl) A6))<|Yw 9 1023 V (Ep Y (cs:=#[.string ⟨#[]⟩,I4 0,I4 0,.pointer none,.pointer none,I4 cap,.slice gc sh.length cc,I6 g sh.length sh.length,.map (some mb),I4 cap]) A6)<|AD fun r=>A2 10 V (Aw Y)<|Ah<|Zn [9] ?_;refine BN (e':=[(9,_)]) (by exact ⟨r,mb,g,gc,cc,trivial,V,V⟩)
   exact Ai
  refine B1 [] [] V rfl (Gb (by_:=8) D0 (V:Tryz.prog.info? 3=some Tryz.t3) V rfl V rfl Y Y ?_ ?_ ?_) ?hk_27 (fun _ _ h=>h.elim) ?hl_27
  (focus (omega))
  (focus (omega))
  (focus (omega))
  case hk_27=>
   rintro _ _ ⟨g,rfl,rfl⟩;refine B5<|Zz (l:=[2])<|B1 [] [] V rfl (Zw [_] Y call88 Y V (GJ G A1)) ?_ Bz Ai;rintro _ _ ⟨_,⟨gc,cc,sc,rfl,B,rfl⟩,rfl⟩;refine B5<|A2 8 V (BL (vs:=[(1,I4 cap),(2,.slice gc sh.length cc),(3,I6 g sh.length sh.length),(4,.map (some mb)),(5,I4 cap)]) (cs:=#[.string ⟨#[]⟩,I4 0,I4 0,.pointer none,.pointer none,I4 cap,.slice gc sh.length cc,I6 g sh.length sh.length,.map (some mb),I4 cap]) Y (AY (pl:=#[(0,5),(5,1),(6,1),(7,1),(8,1),(9,1)]) ep HN (fun _=>by kernel_rfl) A6))<|Yw 9 1023 V (Ep Y (cs:=#[.string ⟨#[]⟩,I4 0,I4 0,.pointer none,.pointer none,I4 cap,.slice gc sh.length cc,I6 g sh.length sh.length,.map (some mb),I4 cap]) A6)<|AD fun r=>A2 10 V (Aw Y)<|Ah<|Zn [9] ?_;refine BN (e':=[(9,_)]) (by exact ⟨r,mb,g,gc,cc,trivial,V,V⟩)
  exact Ai
 rintro _ _ ⟨r,mb,g,gc,cc,_,rfl,rfl⟩;refine A0<|Zm Y<|Zp Y V<|Zh 0 HN V rfl sizeOf180 Y<|Zc [_] Y call89 Y V (gV r 182 (0,0) _ _ _ _ _ _ _ _ _ _) ?_;rintro _ _ ⟨_,⟨rfl,rfl⟩,rfl⟩;refine A4<|A0<|Zm Y<|Za Y<|A3 Y<|AJ<|Cy V results42 Y Y (by exact ⟨⟨r,[],fun _=>pV r,fun _=>pV r,cap,.slice gc sh.length cc,I6 g sh.length sh.length,.map (some mb),cap⟩,mb,_,V,V,dS r cap hc gc sh.length cc mb g A1,V⟩)
theorem wE(B:Dl z ns L mb es ck lm su)(hd:z.bl.Nodup)(hk:k<ns){sz:Int}(l5:1<=sz)(l8:sz<=z.fr){K:ByteArray}(hK:∀e∈L,e.key≠K):BZ prog 45 #[.pointer (some ⟨z.r,0,none⟩),I4 (k:Int),.string K,I4 sz] [z.S,[(mb,.map es ck)],su] (fun v H'=>v= .tuple #[.slice none 0 0,.bool true]/\∃z' Z X o9 gq b,z'.r=z.r/\z'.cap=z.cap/\Dl z' ns (L++[⟨b,K,(k:Int),sz⟩]) mb Z X o9 gq/\H'=[z'.S,[(mb,.map Z X)],gq]):=by
 obtain ⟨sha,pz,l9⟩:=B.sh;have hg:=B.none hK
 refine DL func45 V ntmps45 V ?_;intro u R;refine Zb [0,1,2,3] ?_;refine A0<|Ze (Bx #[_])<|AD fun bp=>Za Y<|A3 Y<|U6 ?_;refine Zq<|A0<|Zl Iv Y ?_;refine Zv (Be lP Y Y)<|Zm Y<|Ag (t:=20) Y V (fun gd=>by cases gd)<|fun gd=>Zf Y Y<|Yg (Av (n:=0) Y Y)<|Zv (AL Y Y)<|Zm Y<|Am (t:=24) Y V (fun g2=>by omega)<|fun g2=>Zf Y Y<|Yl Iv Y ?_;refine Yg (Aq Y V)<|Yf 6 HN V rfl de Y<|Lj Y (Gs Wo (z.root)) (BO cI Y (by exact congrArg some l9)) V rfl ?_;refine Yg (Aa D0 Y)<|Yg (Fw Y Y)<|Zv (AL Y Y)<|Zm Y<|Am (t:=33) Y V (fun g3=>by omega)<|fun g3=>Zf Y Y<|Yg (Dt Y Y)<|Zv (AL Y Y)<|Z0<|Zn [1,2,3,4,36] ?_;refine Zx<|Au Y (fun g4=>by omega)<|fun g4=>AC<|Zx<|A0<|A3 Y<|Zb [10,1,2,3,4] ?_;refine DK (e0:=[(10,_)]) (H0:=[z.S,[(mb,.map es ck)],su]) (fun e H=>∃(z1:Bj) (J:Array MapEntry) (I:Nat) (gm:List (ByteArray×Value)) (W:List A9) (tv:Value),(((z1.r=z.r/\z1.cap=z.cap)/\sz<=z1.fr/\∀x∈L,x.key≠K)/\Dl z1 ns (L) mb J I gm W)/\e=[(10,tv)]/\H=[z1.S,[(mb,.map J I)],W]) Wp ?hx_1 ?hy_1
 case hx_1=>
  refine A0<|Zl Iv Y ?_;refine Zp Y V<|Zh 8 HN V rfl fc Y<|CQ (Gs Wo (z.root)) (BO isAgg175 Y (by exact congrArg some B.mv)) V rfl ?_;refine Zm Y<|Zo Wh (E9 (Dj GF (D:=fun _=>True)) ee mA B.map (fun _ _=>trivial) (trivial) (⟨by rw [hg];first|done|rfl,by rw [hg];first|done|rfl⟩) Y Y) ?_;refine Zm Y<|Zd Y V<|Zd Y V<|Za Y<|A3 Y<|A0<|Zm Y<|A4<|AX Y (fun g7=>by cases g7)<|fun g7=>AC<|Zn [10,1,2,3,4] ?_;refine BN (e':=[(10,_)]) (by exact ⟨z,es,ck,lm,su,_,⟨⟨⟨V,V⟩,l8,hK⟩,B⟩,V,V⟩)
 rintro _ _ ⟨z1,J,I,gm,W,tv,⟨⟨⟨kv,cu⟩,ek,U⟩,g⟩,rfl,rfl⟩;rw [<-kv,<-cu];have pq:=g.use (k:Int)
 have pg:z1.fr<=1000000:=by have h1:=g.free;have h2:=g.cap;have h3:=NN g.sz 0;omega
 refine GM (s:=z1.S) Wo (fun cO=>?_);rw [Bj.keys]at cO;refine A0<|A3 Y<|Zq<|U8<|Zx<|Zq<|AQ<|Zb [10,13,1,2,3,4] ?_;refine BB (e0:=[(10,_),(13,_)]) (fun m e H=>m=0/\(True)/\e=[(10,tv),(13,.slice none 0 0)]/\H=[]) (by exact ⟨V,trivial,V,V⟩) Wp ?_;rintro _ _ _ ⟨rfl,_,rfl,rfl⟩;refine Zq<|A0<|Zl Iv Y ?_;refine Zp Y V<|Zh 9 HN V rfl A5 Y<|CQ (Gs Wo (z1.root)) (BO AE Y AN) V rfl ?_;refine Zm Y<|Zv (Dt Y Y)<|A4<|Au Y (fun g5=>by omega)<|fun g5=>Ay<|Zt<|Zt<|AR<|Zx<|Zq<|A0<|Zl Iv Y ?_;refine Zp Y V<|Zh 9 HN V rfl A5 Y<|CQ (Gs Wo (z1.root)) (BO AE Y AN) V rfl ?_;refine Zm Y<|Zv (Dt Y Y)<|A4<|Au Y (fun g6=>by omega)<|fun g6=>AC<|Zx<|A0<|Zm Y<|Zm Y<|Zm Y<|Zv (BL (vs:=[(0,_),(1,_),(2,_)]) (cs:=#[_,_,_,_,_]) Y (AY (pl:=#[(0,1),(1,1),(2,1),(3,1),(4,1)]) zeroValue178 KB (fun _=>by kernel_rfl) V))<|Ze (Ep Y (cs:=#[.string K,I4 (k:Int),I4 sz,.pointer none,.pointer none]) A6)<|AD fun bn=>AG Y<|Zn [2,4,13,17] ?_;refine Zx<|Zq<|uV (b:=bn) (s:=z1.S) Wo Wo (fun ax=>?_);refine CK (s1:=z1.S) (s2:=[(bn,_)]) Wo Wo ?_;rw [show z1.S++[(bn,Obj.cells #[.string K,I4 (k:Int),I4 sz,.pointer none,.pointer none] 178 (0,0))]=(z1.more (⟨bn,K,(k:Int),sz⟩:Bv)).S from Bj.more_S z1 (⟨bn,K,(k:Int),sz⟩:Bv) ax];refine GM (s:=(z1.more (⟨bn,K,(k:Int),sz⟩:Bv)).S) Wo (fun O=>?_);rw [Bj.keys]at O;obtain ⟨p2,j3,af,d9,G⟩:=YW g cO (⟨bn,K,(k:Int),sz⟩:Bv) ax;refine Zg<|Zm Y<|Zl Iv Y ?_;refine Zp Y V<|Zh 0 HN V rfl sizeOf180 Y<|Zh 0 ec V rfl fY Y<|Zc [_,_] Y call96 Y V (Qn (z1.more (⟨bn,K,(k:Int),sz⟩:Bv)) O d9 j3 af) ?_;rintro _ _ ⟨_,⟨rfl,rfl⟩,rfl⟩;refine A4<|A0<|Zl Iv Y ?_
 refine Zp Y V<|Zh 8 HN V rfl fc Y<|CQ (Gs Wo ((Bj.root ({(z1.more (⟨bn,K,(k:Int),sz⟩:Bv))with nx:=DX (DX (z1.more (⟨bn,K,(k:Int),sz⟩:Bv)).nx (⟨bn,K,(k:Int),sz⟩:Bv).b (pV (z1.more (⟨bn,K,(k:Int),sz⟩:Bv)).r)) p2 (pV (⟨bn,K,(k:Int),sz⟩:Bv).b),bf:=DX (DX (z1.more (⟨bn,K,(k:Int),sz⟩:Bv)).bf (⟨bn,K,(k:Int),sz⟩:Bv).b (pV p2)) (z1.more (⟨bn,K,(k:Int),sz⟩:Bv)).r (pV (⟨bn,K,(k:Int),sz⟩:Bv).b)}:Bj)))) (BO isAgg175 Y (by exact congrArg some g.mv)) V rfl ?_;refine Zm Y<|Zm Y<|Ze (F9 (Dj GF (D:=fun _=>True)) ee g.map (fun _ _=>trivial) (trivial) Y Y Y Wo) ?_;rintro _ _ ⟨rfl,gB,gy,p8,ic,j5,rfl⟩;refine Z0<|Zn [4,13,17] ?_;refine Zx<|A0<|Zl Iv Y ?_;refine Zm Y<|Zc [_,_,_] Y call97 Y rfl (Nt ({(z1.more (⟨bn,K,(k:Int),sz⟩:Bv))with nx:=DX (DX (z1.more (⟨bn,K,(k:Int),sz⟩:Bv)).nx (⟨bn,K,(k:Int),sz⟩:Bv).b (pV (z1.more (⟨bn,K,(k:Int),sz⟩:Bv)).r)) p2 (pV (⟨bn,K,(k:Int),sz⟩:Bv).b),bf:=DX (DX (z1.more (⟨bn,K,(k:Int),sz⟩:Bv)).bf (⟨bn,K,(k:Int),sz⟩:Bv).b (pV p2)) (z1.more (⟨bn,K,(k:Int),sz⟩:Bv)).r (pV (⟨bn,K,(k:Int),sz⟩:Bv).b)}:Bj) O (e:=(⟨bn,K,(k:Int),sz⟩:Bv)) d9 (.inl rfl) g.used (k:=k) rfl (x:=FU (L) (k:Int)) (by rw [DM,X2 hk];rfl) A1 (by show 0<=sz/\sz<=_;omega) (by show _<=z1.fr/\z1.fr<=_;omega)) ?_;rintro _ _ ⟨_,⟨rfl,p9,o8,rfl⟩,rfl⟩;refine A4<|A0<|Zm Y<|Za Y<|A3 Y<|AJ<|Ki ?_;refine Oo V (pM results45 Y Y) (by exact ⟨V,({({(z1.more (⟨bn,K,(k:Int),sz⟩:Bv))with nx:=DX (DX (z1.more (⟨bn,K,(k:Int),sz⟩:Bv)).nx (⟨bn,K,(k:Int),sz⟩:Bv).b (pV (z1.more (⟨bn,K,(k:Int),sz⟩:Bv)).r)) p2 (pV (⟨bn,K,(k:Int),sz⟩:Bv).b),bf:=DX (DX (z1.more (⟨bn,K,(k:Int),sz⟩:Bv)).bf (⟨bn,K,(k:Int),sz⟩:Bv).b (pV p2)) (z1.more (⟨bn,K,(k:Int),sz⟩:Bv)).r (pV (⟨bn,K,(k:Int),sz⟩:Bv).b)}:Bj)with fr:=z1.fr -1*sz}:Bj),gB,gy,p8,p9,bn,V,V,Sg g G U ic j5 V hk ⟨l5,ek⟩ o8,V⟩)
theorem wD{y:Bv}(B:Dl z ns (L1++y::L2) mb es ck lm su)(hd:z.bl.Nodup)(hk:k<ns){sz:Int}(p8:1<=sz)(qo:sz<=z.fr+y.sz):BZ prog 45 #[.pointer (some ⟨z.r,0,none⟩),I4 (k:Int),.string y.key,I4 sz] [z.S,[(mb,.map es ck)],su] (fun v H'=>v= .tuple #[.slice none 0 0,.bool true]/\∃z' ax af pq gB b,z'.r=z.r/\z'.cap=z.cap/\Dl z' ns (L1++L2++[⟨b,y.key,(k:Int),sz⟩]) mb ax af pq gB/\H'=[z'.S,[(mb,.map ax af)],gB]):=by
 obtain ⟨sha,qx,p9⟩:=B.sh;have hg:=B.get (e:=y) B0
 have l5:∀x∈L1++L2,x.key≠y.key:=fun x hx=>by
  have Z:=B.keys;rw [Bm,DQ,Ge,Hi]at Z;rcases BE.1 hx with hx|hx
  · exact Z.2.2 _ (DO hx) _ (Dd ..)
  · exact fun hh=>Z.2.1.1 (hh▸DO hx)
 refine DL func45 V ntmps45 V ?_;intro u R;refine Zb [0,1,2,3] ?_;refine A0<|Ze (Bx #[_])<|AD fun bp=>Za Y<|A3 Y<|U6 ?_;refine Zq<|A0<|Zl Iv Y ?_;refine Zv (Be lP Y Y)<|Zm Y<|Ag (t:=20) Y V (fun gd=>by cases gd)<|fun gd=>Zf Y Y<|Yg (Av (n:=0) Y Y)<|Zv (AL Y Y)<|Zm Y<|Am (t:=24) Y V (fun g2=>by omega)<|fun g2=>Zf Y Y<|Yl Iv Y ?_;refine Yg (Aq Y V)<|Yf 6 HN V rfl de Y<|Lj Y (Gs Wo (z.root)) (BO cI Y (by exact congrArg some p9)) V rfl ?_;refine Yg (Aa D0 Y)<|Yg (Fw Y Y)<|Zv (AL Y Y)<|Zm Y<|Am (t:=33) Y V (fun g3=>by omega)<|fun g3=>Zf Y Y<|Yg (Dt Y Y)<|Zv (AL Y Y)<|Z0<|Zn [1,2,3,4,36] ?_;refine Zx<|Au Y (fun g4=>by omega)<|fun g4=>AC<|Zx<|A0<|A3 Y<|Zb [10,1,2,3,4] ?_;refine DK (e0:=[(10,_)]) (H0:=[z.S,[(mb,.map es ck)],su]) (fun e H=>∃(z1:Bj) (I:Array MapEntry) (G:Nat) (O:List (ByteArray×Value)) (J:List A9) (tv:Value),(((z1.r=z.r/\z1.cap=z.cap)/\sz<=z1.fr/\∀x∈L1++L2,x.key≠y.key)/\Dl z1 ns (L1++L2) mb I G O J)/\e=[(10,tv)]/\H=[z1.S,[(mb,.map I G)],J]) Wp ?hx_1 ?hy_1
 case hx_1=>
  refine A0<|Zl Iv Y ?_;refine Zp Y V<|Zh 8 HN V rfl fc Y<|CQ (Gs Wo (z.root)) (BO isAgg175 Y (by exact congrArg some B.mv)) V rfl ?_;refine Zm Y<|Zo Wh (E9 (Dj GF (D:=fun _=>True)) ee mA B.map (fun _ _=>trivial) (trivial) (⟨by rw [hg];first|done|rfl,by rw [hg];first|done|rfl⟩) Y Y) ?_;refine Zm Y<|Zd Y V<|Zd Y V<|Za Y<|A3 Y<|A0<|Zm Y<|A4<|AX Y (fun g7=>?_) (fun g7=>?_)
  ·
   refine A0<|Zl Iv Y ?_;refine Zm Y<|Zc [_,_] Y call92 Y V (Uv B hd) ?_;rintro _ _ ⟨_,⟨rfl,z9,I,G,O,J,o9,j5,ql,U,rfl⟩,rfl⟩;refine Z0<|Zn [1,2,3,4,10,11] ?_;refine Zx<|BV<|Zg<|Zm Y<|Zm Y<|Ze (Aj (vs:=[_]) (cs:=[_]) underlying191 Hs mA Y V rfl V rfl V)<|AD fun b2=>Ze (EZ (by_:=8) (news:=[_]) underlying191 (V:Tryz.prog.info? 176=some Tryz.t176) V rfl V rfl Y (GU 176) Y Wo Wh AN V Fl AW AW AW) ?_;rintro _ _ ⟨qz,gy,rfl⟩;obtain ⟨qj,qb,rfl⟩:=gy.form;refine AG Y<|Zn [10,1,2,3,4] ?_;refine BN (e':=[(10,_)]) (by exact ⟨z9,I,G,O,J,_,⟨⟨⟨o9,j5⟩,by have h1:=B.free;have h2:=U.free;rw [LP]at h1 h2;rw [Ju]at h1;omega,fun x hx=>l5 x hx⟩,U⟩,rfl,rfl⟩)
  cases g7
 rintro _ _ ⟨z1,I,G,O,J,tv,⟨⟨⟨o8,d9⟩,gq,X⟩,g⟩,rfl,rfl⟩;rw [<-o8,<-d9];have qw:=g.use (k:Int)
 have qa:z1.fr<=1000000:=by have h1:=g.free;have h2:=g.cap;have h3:=NN g.sz 0;omega
 refine GM (s:=z1.S) Wo (fun ek=>?_);rw [Bj.keys]at ek;refine A0<|A3 Y<|Zq<|U8<|Zx<|Zq<|AQ<|Zb [10,13,1,2,3,4] ?_;refine BB (e0:=[(10,_),(13,_)]) (fun m e H=>m=0/\(True)/\e=[(10,tv),(13,.slice none 0 0)]/\H=[]) (by exact ⟨V,trivial,V,V⟩) Wp ?_;rintro _ _ _ ⟨rfl,_,rfl,rfl⟩;refine Zq<|A0<|Zl Iv Y ?_;refine Zp Y V<|Zh 9 HN V rfl A5 Y<|CQ (Gs Wo (z1.root)) (BO AE Y AN) V rfl ?_;refine Zm Y<|Zv (Dt Y Y)<|A4<|Au Y (fun g5=>by omega)<|fun g5=>Ay<|Zt<|Zt<|AR<|Zx<|Zq<|A0<|Zl Iv Y ?_;refine Zp Y V<|Zh 9 HN V rfl A5 Y<|CQ (Gs Wo (z1.root)) (BO AE Y AN) V rfl ?_;refine Zm Y<|Zv (Dt Y Y)<|A4<|Au Y (fun g6=>by omega)<|fun g6=>AC<|Zx<|A0<|Zm Y<|Zm Y<|Zm Y<|Zv (BL (vs:=[(0,_),(1,_),(2,_)]) (cs:=#[_,_,_,_,_]) Y (AY (pl:=#[(0,1),(1,1),(2,1),(3,1),(4,1)]) zeroValue178 KB (fun _=>by kernel_rfl) V))<|Ze (Ep Y (cs:=#[.string y.key,I4 (k:Int),I4 sz,.pointer none,.pointer none]) A6)<|AD fun bn=>AG Y<|Zn [2,4,13,17] ?_;refine Zx<|Zq<|uV (b:=bn) (s:=z1.S) Wo Wo (fun cO=>?_);refine CK (s1:=z1.S) (s2:=[(bn,_)]) Wo Wo ?_;rw [show z1.S++[(bn,Obj.cells #[.string y.key,I4 (k:Int),I4 sz,.pointer none,.pointer none] 178 (0,0))]=(z1.more (⟨bn,y.key,(k:Int),sz⟩:Bv)).S from Bj.more_S z1 (⟨bn,y.key,(k:Int),sz⟩:Bv) cO];refine GM (s:=(z1.more (⟨bn,y.key,(k:Int),sz⟩:Bv)).S) Wo (fun W=>?_);rw [Bj.keys]at W;obtain ⟨p2,l8,cu,gm,K⟩:=YW g ek (⟨bn,y.key,(k:Int),sz⟩:Bv) cO;refine Zg<|Zm Y<|Zl Iv Y ?_;refine Zp Y V<|Zh 0 HN V rfl sizeOf180 Y<|Zh 0 ec V rfl fY Y<|Zc [_,_] Y call96 Y V (Qn (z1.more (⟨bn,y.key,(k:Int),sz⟩:Bv)) W gm l8 cu) ?_;rintro _ _ ⟨_,⟨rfl,rfl⟩,rfl⟩;refine A4<|A0<|Zl Iv Y ?_
 refine Zp Y V<|Zh 8 HN V rfl fc Y<|CQ (Gs Wo ((Bj.root ({(z1.more (⟨bn,y.key,(k:Int),sz⟩:Bv))with nx:=DX (DX (z1.more (⟨bn,y.key,(k:Int),sz⟩:Bv)).nx (⟨bn,y.key,(k:Int),sz⟩:Bv).b (pV (z1.more (⟨bn,y.key,(k:Int),sz⟩:Bv)).r)) p2 (pV (⟨bn,y.key,(k:Int),sz⟩:Bv).b),bf:=DX (DX (z1.more (⟨bn,y.key,(k:Int),sz⟩:Bv)).bf (⟨bn,y.key,(k:Int),sz⟩:Bv).b (pV p2)) (z1.more (⟨bn,y.key,(k:Int),sz⟩:Bv)).r (pV (⟨bn,y.key,(k:Int),sz⟩:Bv).b)}:Bj)))) (BO isAgg175 Y (by exact congrArg some g.mv)) V rfl ?_;refine Zm Y<|Zm Y<|Ze (F9 (Dj GF (D:=fun _=>True)) ee g.map (fun _ _=>trivial) (trivial) Y Y Y Wo) ?_;rintro _ _ ⟨rfl,j3,ic,pz,kv,l9,rfl⟩;refine Z0<|Zn [4,13,17] ?_;refine Zx<|A0<|Zl Iv Y ?_;refine Zm Y<|Zc [_,_,_] Y call97 Y rfl (Nt ({(z1.more (⟨bn,y.key,(k:Int),sz⟩:Bv))with nx:=DX (DX (z1.more (⟨bn,y.key,(k:Int),sz⟩:Bv)).nx (⟨bn,y.key,(k:Int),sz⟩:Bv).b (pV (z1.more (⟨bn,y.key,(k:Int),sz⟩:Bv)).r)) p2 (pV (⟨bn,y.key,(k:Int),sz⟩:Bv).b),bf:=DX (DX (z1.more (⟨bn,y.key,(k:Int),sz⟩:Bv)).bf (⟨bn,y.key,(k:Int),sz⟩:Bv).b (pV p2)) (z1.more (⟨bn,y.key,(k:Int),sz⟩:Bv)).r (pV (⟨bn,y.key,(k:Int),sz⟩:Bv).b)}:Bj) W (e:=(⟨bn,y.key,(k:Int),sz⟩:Bv)) gm (.inl rfl) g.used (k:=k) rfl (x:=FU (L1++L2) (k:Int)) (by rw [DM,X2 hk];rfl) A1 (by show 0<=sz/\sz<=_;omega) (by show _<=z1.fr/\z1.fr<=_;omega)) ?_;rintro _ _ ⟨_,⟨rfl,q9,pg,rfl⟩,rfl⟩;refine A4<|A0<|Zm Y<|Za Y<|A3 Y<|AJ<|Ki ?_;refine Oo V (pM results45 Y Y) (by exact ⟨V,({({(z1.more (⟨bn,y.key,(k:Int),sz⟩:Bv))with nx:=DX (DX (z1.more (⟨bn,y.key,(k:Int),sz⟩:Bv)).nx (⟨bn,y.key,(k:Int),sz⟩:Bv).b (pV (z1.more (⟨bn,y.key,(k:Int),sz⟩:Bv)).r)) p2 (pV (⟨bn,y.key,(k:Int),sz⟩:Bv).b),bf:=DX (DX (z1.more (⟨bn,y.key,(k:Int),sz⟩:Bv)).bf (⟨bn,y.key,(k:Int),sz⟩:Bv).b (pV p2)) (z1.more (⟨bn,y.key,(k:Int),sz⟩:Bv)).r (pV (⟨bn,y.key,(k:Int),sz⟩:Bv).b)}:Bj)with fr:=z1.fr -1*sz}:Bj),j3,ic,pz,q9,bn,V,V,Sg g K X kv l9 V hk ⟨p8,gq⟩ pg,V⟩)
end Go.Proofs.YteaiajghbkenoaaGreatDoor
