/- Match. -/
/- Contracts: strings.Builder. -/
/- The line of a query (plain); its parts. -/
/- The forms of the lines. -/
/- query.Print. -/
/- The keys of a map, sorted: string. -/
/- The ring of a pool. -/
/- The pool: what holds of it, its entries counted, taken and put. -/
/- The pool made; Put where there is room. -/
import Derived.Test.YteaiajghbkenoaaGreatDoorEz
import Derived.Test.YteaiajghbkenoaaGreatDoorCo1
import Derived.Test.YteaiajghbkenoaaGreatDoorPr3
import Derived.Test.YteaiajghbkenoaaGreatDoorEx36
import Derived.Test.YteaiajghbkenoaaGreatDoorLg5
import Derived.Test.YteaiajghbkenoaaGreatDoorQe3
import Derived.Test.YteaiajghbkenoaaGreatDoorQe1
import Derived.Test.YteaiajghbkenoaaGreatDoorEx5
import Derived.Test.YteaiajghbkenoaaGreatDoorProg
set_option linter.unusedVariables false
set_option linter.unusedSimpArgs false
namespace Go.Proofs.YteaiajghbkenoaaGreatDoor
open Go.Proofs.Tryz
open Go Go.RowKit Gw
set_option maxRecDepth 100000
attribute [local irreducible] Gw.At Gw.Nx Gw.Ops
variable{qs:List (Int×QM)}{c:Chg}
theorem og{sc:Int->Int->List IvM}{jn:Int->List Int}(hW:J8 qs sc jn)(hq:∀x∈qs,BH x.2){cs:List Chg}{k:Nat}(hc:cs[k]?=some c)(i:Int):(J9 qs (cs.take k) i\/(i∈Mj sc jn c/\J9 qs [c] i))↔J9 qs (cs.take (k+1)) i:=by
 rw [Bc hc];unfold J9;constructor
 · rintro (⟨x,hx,he,d,hd,ht⟩|⟨_,x,hx,he,d,hd,ht⟩)
   · exact ⟨x,hx,he,d,zR _ hd,ht⟩
   · exact ⟨x,hx,he,d,zZ _ hd,ht⟩
 · rintro ⟨x,hx,he,d,hd,ht⟩
   rcases zJ.1 hd with hd|hd
   · exact .inl ⟨x,hx,he,d,hd,ht⟩
   · refine .inr ⟨?_,x,hx,he,d,hd,ht⟩
     rw [zI.1 hd]at ht;rw [<-he];exact bF hW hx (hq x hx) ht
variable{es:Array MapEntry}{ck:Nat}{lm:List (Int×Value)}{y:Int×QM}
theorem fG(hok:EM qs es ck lm)(hy:y∈qs):J9 qs [c] y.1↔CU y.2 c=true:=by
 constructor
 · rintro ⟨x,hx,he,d,hd,ht⟩
   rw [zI.1 hd]at ht;rwa [wS hok hx hy he]at ht
 · intro h;exact ⟨y,hy,rfl,c,by simp,h⟩
theorem jd(hok:EM qs es ck lm)(hy:y∈qs)(h:CU y.2 c=true){S:Int->Prop}{pre:List Int}(i:Int):((S i\/(i∈pre/\J9 qs [c] i))\/i=y.1)↔(S i\/(i∈pre++[y.1]/\J9 qs [c] i)):=by
 rw [zJ,zI];constructor
 · rintro ((h1|⟨h1,h2⟩)|rfl)
   · exact .inl h1
   · exact .inr ⟨.inl h1,h2⟩
   · exact .inr ⟨.inr rfl,(fG hok hy).2 h⟩
 · rintro (h1|⟨h1|rfl,h2⟩)
   · exact .inl (.inl h1)
   · exact .inl (.inr ⟨h1,h2⟩)
   · exact .inr rfl
theorem YK(hok:EM qs es ck lm)(hy:y∈qs){S:Int->Prop}{pre:List Int}(h:CU y.2 c=true->S y.1\/(y.1∈pre/\J9 qs [c] y.1))(i:Int):(S i\/(i∈pre/\J9 qs [c] i))↔(S i\/(i∈pre++[y.1]/\J9 qs [c] i)):=by
 rw [zJ,zI];constructor
 · rintro (h1|⟨h1,h2⟩)
   · exact .inl h1
   · exact .inr ⟨.inl h1,h2⟩
 · rintro (h1|⟨h1|rfl,h2⟩)
   · exact .inl h1
   · exact .inr ⟨h1,h2⟩
   · exact h ((fG hok hy).1 h2)
theorem bI{ip mp:Nat}(hok:EM qs es ck lm)(hq:∀x∈qs,BH x.2)(hl:qs.length<=500){lv:Value}{ML:List A8}(hst:VC qs lv ML)(p:Int){MC:List A8}{qa:Option Addr}{cap:Nat}{cs:List Chg}(hC:Ct MC (.slice qa cs.length cap) cs)(hcl:cs.length<=1000)(hcok:∀c∈cs,c.ok):BR Tryz.prog 56 #[I5 ip,.agg #[I4 p,.slice qa cs.length cap]] [[(ip,.cells #[.map (some mp),lv] 186 (0,0))],[(mp,.map es ck)],ML,MC] (fun r H'=>∃(zs:List Int) (s':List A8) (lv':Value) (ML':List A8),(∀i,i∈zs↔J9 qs cs i)/\zs.Nodup/\(zs.Pairwise fun x y=>x<=y)/\Row 3 r (zs.map (Value.int .i64)) s'/\VC qs lv' ML'/\H'=[[(ip,.cells #[.map (some mp),lv'] 186 (0,0))],[(mp,.map es ck)],ML',MC,s']):=by
 have hml:=mL;obtain ⟨pc,capc,hvc,hcm,hgc⟩:=id hC;injection hvc with hv1 hv2 hv3
 subst hv1 hv3;have hll:=hok.len
 refine Cz func56 V ntmps56 V ?_;intro u R;refine Zb [0,1] ?_;refine Zq<|Zg<|Ze (Bx #[_]) ?_;rintro _ _ ⟨bx,rfl,rfl⟩;refine Ze (Bx #[I4 p,.slice qa cs.length cap]) ?_;rintro _ _ ⟨br,rfl,rfl⟩;refine Za Y<|Z0<|Zx<|Zq<|Zq<|Zg<|Zl isAgg116 Y ?_;refine Zv (BU underlying116 Y Y)<|Z0<|Zx<|AR Y (fun hb9=>?_) (fun hb9=>?_)
 ·
  cases hb9
 refine AJ<|Zx<|Zq<|Zg<|Ze (D6) ?_;rintro _ _ ⟨mf,rfl,rfl⟩;refine Ze (Al zeroValue213 #[_]) ?_;rintro _ _ ⟨bf,rfl,rfl⟩;refine Xe (Zs sizeOf213 Y Y V) ?_;refine Z0<|Zx<|Zq<|Zq<|Zg<|Zh 1 AY1 V rfl Ai4 Y<|Zl isAgg48 Y ?_;refine Zv (Aa AZ0 Y)<|Zm Y<|Z0<|Zx<|AO<|Zb [15,2,5,13,14] ?_;refine qO (e0:=[(15,_)]) (H0:=_) (n:=_) (fun m e H=>∃(k:Nat) (lv:Value) (ML:List A8) (esF:Array MapEntry) (ckF:Nat) (lmF:List (Int×Value)),m=cs.length -k/\(k<=cs.length/\VC qs lv ML/\HV (J9 qs (cs.take k)) esF ckF lmF)/\e=[(15,I4 (k:Int))]/\H=[[(ip,.cells #[.map (some mp),lv] 186 (0,0))],ML,[(mf,.map esF ckF)]]) (by exact ⟨0,lv,ML,#[],0,[],V,⟨zT _,hst,cZ.cong fun i=>by unfold J9;simp⟩,V,V⟩) Wp ?_;rintro Ds _ _ _ ⟨k,lv,ML,esF,ckF,lmF,rfl,⟨hk,hst,hF⟩,rfl,rfl⟩;refine Zq<|Zg<|Zv (Au Y Y)<|Z0<|Zx<|Zq<|Aw Y (fun hlt=>?_) (fun hlt=>?_)
 ·
  obtain ⟨c,hc⟩:∃c,cs[k]?=some c:=⟨_,zD Ao7⟩;have hco:=hcok c (zP hc)
  have htb:=ZR hco;obtain ⟨g,off,cur,T,zz,rfl,hm9,hsz9,hex9⟩:=hgc k c hc;refine AJ<|Zx<|Zq<|AO<|Zq<|Zg<|Bq (Ai AZ0 AW4 Y Y Ao7)<|CW (Gc Wo (hm9)) (AA (cs:=#[I4 c.t,I4 c.k,.bool c.had,I4 c.o.a,I4 c.o.b,I4 c.o.c,.bool c.has,I4 c.n.a,I4 c.n.b,I4 c.n.c]) Aa3 AW4 Y Ao7 (by exact hex9)) V rfl ?_;refine Ze (Al Ab1 #[_,_,_,_,_,_,_,_,_,_]) ?_;rintro _ _ ⟨bc,rfl,rfl⟩;refine Xe (Xw AW4 #[I4 c.t,I4 c.k,.bool c.had,I4 c.o.a,I4 c.o.b,I4 c.o.c,.bool c.has,I4 c.n.a,I4 c.n.b,I4 c.n.c]) ?_;refine Z0<|Zx<|Zq<|Az (n:=4) (0::1::0::7::[]) 10 Ao8 Ao8 V<|Ao0 0 V isAgg116 Y ?_;refine Ao4 2 V Wh (AA (cs:=#[_,_,_,_,_,_,_,_,_,_]) Aa3 AW4 Y Wn (by exact BD V)) ?_;refine Zz (l:=[1])<|Ao5 [true,false] [(2,(_,_))] V rfl (Zw [_] Y call111 Y V (ny hok hq hl hst)) ?hk_2 Bp ?hl_2
  case hk_2=>
   rintro _ _ ⟨_,⟨lp,ML2,sc,jn,rfl,hL,hW,rfl⟩,rfl⟩;refine ⟨Zk (AV),?_⟩;refine Zz (l:=[3])<|Ao5 [false] [] V rfl (Zw [_,_] Y call112 Y V (iZ lp c)) ?hk_3 Bp ?hl_3
   case hk_3=>
    rintro _ _ ⟨_,⟨bl,bn,rfl,rfl⟩,rfl⟩;refine ⟨AV,?_⟩;refine Ag<|Zx<|AO<|Zb [2,5,7,13,14,15,22] ?_;refine Og (H0:=_) (R:=_) (I:=(fun(pre:List Int) H=>∃esG ckG lmG,HV (fun i=>J9 qs (cs.take k) i\/(i∈pre/\J9 qs [c] i)) esG ckG lmG/\H=[[(ip,.cells #[.map (some mp),I5 lp] 186 (0,0))],[(mp,.map es ck)],ML2,[(mf,.map esG ckG)],[(bf,.cells #[.map (some mf)] 213 (0,0))],[(bx,.cells #[I5 ip] 116 (0,0))],[(bc,.cells #[I4 c.t,I4 c.k,.bool c.had,I4 c.o.a,I4 c.o.b,I4 c.o.c,.bool c.has,I4 c.n.a,I4 c.n.b,I4 c.n.c] 69 (0,0))]])) (E:=fun x e Hn=>e=[(8,I4 x),(23,I4 x)]/\Hn=[]) rfl Y call184 (ig hL c (ZP hco) Ao7 (hW.small c.t) bn bl) (by rintro pre _ c1 c2 ⟨es9,ck9,lm9,h9,rfl⟩;intro q hq9;simp [hq9]) Y rfl Wp (⟨esF,ckF,lmF,hF.cong fun i=>by simp,rfl⟩) ?ha_5 ?hbd_5 ?hk_5
    case ha_5=>
     intro _ x _ _;refine Zg<|Za Y<|Z0<|LQ (e:=[(8,_),(23,_)]) (Hn:=[]) ?_;exact ⟨V,V⟩
    case hbd_5=>
     intro l pre x post u e9 Hn9 H1 R1 r9 hxs hI hE9;obtain ⟨rfl,rfl⟩:=hE9;obtain ⟨esG,ckG,lmG,hG,rfl⟩:=hI;obtain ⟨y,hy,rfl⟩:=nW hW (c:=c) (i:=x) (by rw [hxs];simp);have hgy:=hok.get hy
     have hdec:Decidable (J9 qs (cs.take k) y.1\/(y.1∈pre/\J9 qs [c] y.1)):=Classical.propDecidable _;have hgf:=hG.get y.1
     refine AO<|Zq<|Az (n:=14) (0::0::3::7::15::31::63::127::255::31::1023::31::4095::8191::[]) 4096 Ao8 Ao8 V<|Ao0 0 V isAgg213 Y ?_;refine An9 1 V (AP Y)<|Ao4 2 V Wh (DK (CO AV3 (D:=fun _=>True)) underlying213 Ae9 hG.map (fun _ _=>trivial) (trivial) (hgf) Y Y) ?_;refine An9 3 V (Eg Y)<|An9 4 V (AP Y)<|EE (t:=28) Y (fun hg9=>?_) (fun hg9=>?_)
     ·
      rw [Am8 hg9];refine Ao3 5 V Wh (BX isAgg116 Y Ap1) ?_;refine Ao2 6 V (Am Y V)<|Ao2 7 V (AB (off:=0) AZ7 V rfl Aj1 Y)<|Ao3 8 V Wh (BX Am1 Y Ap1) ?_;refine Ao2 9 rfl (AP Y)<|Ao3 10 rfl Wh (DK (CO AV3 (D:=fun _=>True)) Af5 Ad8 hok.map (fun _ _=>trivial) (trivial) (by rw [hgy];first|done|rfl) Y Y) ?_;refine Ao3 11 V Wh (AA (cs:=#[I4 c.t,I4 c.k,.bool c.had,I4 c.o.a,I4 c.o.b,I4 c.o.c,.bool c.has,I4 c.n.a,I4 c.n.b,I4 c.n.c]) Aa3 AW4 Y Wn (by exact BD V)) ?_;refine Yw 12 8191 V (Zu [_,_] Y call22 Y V (K8 y.2 c)) ?_;rintro _ _ ⟨rfl,rfl⟩;rw [Am8 (hq y hy),Am8 hco,AJ1,AJ1];refine An9 13 V (AZ Y Y)<|Ag<|Zn [5,8,37] ?_;refine Zx<|AR Y (fun h9a=>?_) (fun h9a=>?_)
      ·
       have h9:=h9a;refine Zg<|Zl isAgg213 Y ?_;refine Zm Y<|Ze (Et (CO AV3 (D:=fun _=>True)) underlying213 hG.map (fun _ _=>trivial) (trivial) Y Y Y Wo) ?_;rintro _ _ ⟨rfl,es2,ck2,lm2,hm2,hp2,rfl⟩;refine Z0<|A9<|Ej V (by exact ⟨es2,ck2,lm2,(hG.put hm2 hp2).cong (jd hok hy h9),V⟩)
      have h9:CU y.2 c=true->J9 qs (cs.take k) y.1\/(y.1∈pre/\J9 qs [c] y.1):=fun h=>by rw [h9a]at h;cases h
      refine AJ<|A9<|Ej V (by exact ⟨esG,ckG,lmG,hG.cong (YK hok hy h9),V⟩)
     rw [Am5 hg9];have h9:CU y.2 c=true->J9 qs (cs.take k) y.1\/(y.1∈pre/\J9 qs [c] y.1):=fun _=>AD7.1 hg9
     refine Ao1 5 V<|Ao1 6 V<|Ao1 7 V<|Ao1 8 V<|Ao1 9 V<|Ao1 10 V<|Ao1 11 V<|Ao1 12 V<|An9 13 V (AU Y Y)<|Ag<|Zn [5,8,37] ?_;refine Zx<|Dv Y<|AJ<|A9<|Ej V (by exact ⟨esG,ckG,lmG,hG.cong (YK hok hy h9),V⟩)
    intro D1 H2 hI2;obtain ⟨esG,ckG,lmG,hG,rfl⟩:=hI2;refine Zn [2,5,13,14,15] ?_;refine A9<|A9<|Zx<|Zg<|Ya (n:=1) Y Y<|Zm Y<|Z0<|Zn [15,2,5,13,14] ?_;refine bD (Ds:=Ds) (e':=[(15,_)]) (by exact ⟨k+1,_,ML2,esG,ckG,lmG,V,⟨by omega,.inr ⟨lp,sc,jn,V,hL,hW⟩,hG.cong (og hW hq hc)⟩,V,V⟩) Wo Wo
   exact Ae
  exact Ae
 obtain rfl:k=cs.length:=by omega
 rw [AA4]at hF;refine BG<|Zt<|Zt<|AX<|Zx<|Zq ?_;have hfl:=hF.len (qs:=qs) fun i h=>by
  obtain ⟨x,hx,he,_⟩:=h;exact ⟨x,hx,he⟩
 refine Zg<|Zl isAgg213 Y ?_;refine Zc [_] Y call114 Y V (bT mf) ?_;rintro _ _ ⟨_,⟨bk,rfl,rfl⟩,rfl⟩;refine Zc [_] Y call113 Y V (VS hF.map Ao7 bk mf (M:=[(mf,.map esF ckF)]) Ap0) ?_;rintro _ _ ⟨_,⟨zs,s4,hp4,hso4,hr4,rfl⟩,rfl⟩;refine Za Y<|Z0<|Zx<|AC<|nT (Ds:=Ds) rfl (aN results56 Y) Wo (by exact ⟨zs,s4,lv,ML,fun i=>by rw [hp4.mem_iff,hF.mem],hp4.nodup_iff.2 hF.map.keys,hso4,hr4,hst,rfl⟩)
theorem QX(b:Nat)(v:Value):BR Tryz.prog 86 #[I5 b] [[(b,.cells #[.pointer none,v] 99 (0,0))]] (fun r H'=>r= .tuple #[]/\H'=[[(b,.cells #[I5 b,v] 99 (0,0))]]):=by
 refine Se func86 ntmps86 [0] ?_;intro u R;refine Zq<|Zg<|Zm Y<|Zp Y V<|Zh 0 Aa8 V rfl sizeOf96 Y<|Zl isAgg96 Y ?_;refine Zv (JZ Ag5 Y Y)<|Z0<|Zx<|AR Y (fun hc1=>?_) (fun hc1=>?_)
 ·
  refine Zg<|Zm Y<|Zm Y<|Zo Wh (Xa (c:=#[.pointer none,v]) Ag5 underlying236 (V:Tryz.prog.info? 99=some Tryz.t99) Ao9 (Nat.zero_lt_succ 1) Y) ?_;refine KH (nI (vs:=[_]) (e:=Extern.AbiNoEscape.same) func155 Ao8 Ao8 Ao8 Ao8 Y Y) V rfl ?_;refine Zo Wh (Ti underlying236 Ag5 (V:Tryz.prog.info? 99=some Tryz.t99) (show liesAt _ _ _ (2/_) 0 _ 1=true from by kernel_rfl) Y) ?_;refine Zp Y V<|Zh 0 Aa8 V rfl sizeOf96 Y<|Xe (Zs sizeOf96 Y Y V) ?_;refine Z0<|Cj V results86 (by exact ⟨V,V⟩)
 cases hc1
theorem Lf(b:Nat)(v:Value):BR Tryz.prog 86 #[I5 b] [[(b,.cells #[I5 b,v] 99 (0,0))]] (fun r H'=>r= .tuple #[]/\H'=[[(b,.cells #[I5 b,v] 99 (0,0))]]):=by
 refine Se func86 ntmps86 [0] ?_;intro u R;refine Zq<|Zg<|Zm Y<|Zp Y V<|Zh 0 Aa8 V rfl sizeOf96 Y<|Zl isAgg96 Y ?_;refine Zv (BU Ag5 Y Y)<|Z0<|Zx<|AR Y (fun hc1=>?_) (fun hc1=>?_)
 ·
  cases hc1
 refine Zq<|Zg<|Zm Y<|Zp Y V<|Zh 0 Aa8 V rfl sizeOf96 Y<|Zl isAgg96 Y ?_;refine Zm Y<|KH (Rx Ag5 (V:Tryz.prog.info? 99=some Tryz.t99) Y Y) V rfl ?_;refine Z0<|Zx<|Dv Y<|AJ<|Cj V results86 (by exact ⟨V,V⟩)
theorem JB(b:Nat)(v:Value)(l x:List UInt8)(sb:List A8)(hrow:Row 5 v (l.map u8v) sb)(h0:0<x.length)(hb:l.length+x.length<=1099511627776):BR Tryz.prog 36 #[I5 b,.string (str x)] [[(b,.cells #[.pointer none,v] 99 (0,0))],sb] (fun r H'=>∃v' sb' rv,Row 5 v' ((l++x).map u8v) sb'/\r=rv/\H'=[[(b,.cells #[I5 b,v'] 99 (0,0))],sb']):=by
 have hml:=mL;obtain ⟨gv,cv,rfl⟩:=hrow.form;refine Se func36 ntmps36 [0,1] ?_;intro u R;refine Zq<|Zg<|Za Y<|Za Y<|Z0<|Zx<|Zq<|Zg<|Zm Y<|Zc [_] Y call86 Y V (QX b _) ?_;rintro _ _ ⟨_,⟨rfl,rfl⟩,rfl⟩;refine Z0<|Zx<|Zq<|Zg<|Zm Y<|Zm Y<|Zp Y V<|Zh 1 Aa8 V rfl Af0 Y<|Zl Ah2 Y ?_;refine Zm Y<|Ze (Nk (by_:=1) AW9 AW6 (V:Tryz.prog.info? 5=some Tryz.t5) V rfl V rfl Y hrow Y Wo Ao7 (by(rw [zH];omega)) (by(rw [zH];omega))) ?_;rintro _ _ ⟨sq,hrq,rfl⟩;obtain ⟨gq,cq,rfl⟩:=hrq.form;refine Zp Y V<|Zh 1 Aa8 V rfl Af0 Y<|Xe (Zs Af0 Y Y V) ?_;refine Z0<|Zn [1] ?_;refine Zx<|Zq<|Zg<|Zm Y<|Zv (PW AW6 Y)<|Za Y<|Za Y<|Z0<|Zx<|AC<|Ci rfl results36 Y Y (by exact ⟨_,sq,_,(by rw [zK];exact hrq),rfl,rfl⟩)
theorem Om(b:Nat)(v:Value)(l x:List UInt8)(sb:List A8)(hrow:Row 5 v (l.map u8v) sb)(h0:0<x.length)(hb:l.length+x.length<=1099511627776):BR Tryz.prog 36 #[I5 b,.string (str x)] [[(b,.cells #[I5 b,v] 99 (0,0))],sb] (fun r H'=>∃v' sb' rv,Row 5 v' ((l++x).map u8v) sb'/\r=rv/\H'=[[(b,.cells #[I5 b,v'] 99 (0,0))],sb']):=by
 have hml:=mL;obtain ⟨gv,cv,rfl⟩:=hrow.form;refine Se func36 ntmps36 [0,1] ?_;intro u R;refine Zq<|Zg<|Za Y<|Za Y<|Z0<|Zx<|Zq<|Zg<|Zm Y<|Zc [_] Y call86 Y V (Lf b _) ?_;rintro _ _ ⟨_,⟨rfl,rfl⟩,rfl⟩;refine Z0<|Zx<|Zq<|Zg<|Zm Y<|Zm Y<|Zp Y V<|Zh 1 Aa8 V rfl Af0 Y<|Zl Ah2 Y ?_;refine Zm Y<|Ze (Nk (by_:=1) AW9 AW6 (V:Tryz.prog.info? 5=some Tryz.t5) V rfl V rfl Y hrow Y Wo Ao7 (by(rw [zH];omega)) (by(rw [zH];omega))) ?_;rintro _ _ ⟨sq,hrq,rfl⟩;obtain ⟨gq,cq,rfl⟩:=hrq.form;refine Zp Y V<|Zh 1 Aa8 V rfl Af0 Y<|Xe (Zs Af0 Y Y V) ?_;refine Z0<|Zn [1] ?_;refine Zx<|Zq<|Zg<|Zm Y<|Zv (PW AW6 Y)<|Za Y<|Za Y<|Z0<|Zx<|AC<|Ci rfl results36 Y Y (by exact ⟨_,sq,_,(by rw [zK];exact hrq),rfl,rfl⟩)
theorem NY(b g cap:Nat)(p:Value)(l:List UInt8)(cur:Array Value)(z:Nat×Nat)(h0:0<l.length)(hc:cap≠0)(hl:l.length<=9223372036854775807)(htk:cur.toList.take l.length=l.map u8v):BR Tryz.prog 40 #[I5 b] [[(b,.cells #[p,I6 g l.length cap] 99 (0,0))],[(g,.cells cur 5 z)]] (fun r H'=>r= .string (str l)/\H'=[[(b,.cells #[p,I6 g l.length cap] 99 (0,0))]]):=by
 refine Se func40 ntmps40 [0] ?_;intro u R;refine Zq<|Zg<|Za Y<|Z0<|Zx<|Zq<|Az (n:=12) (0::1::3::7::15::0::32::96::224::480::1023::2047::[]) 1040 Ao8 Ao8 V<|An9 0 V (AP Y)<|An9 1 V (Am Y V)<|An9 2 V (AB (off:=1) Aa8 V rfl Af0 Y)<|Ao0 3 V Ah2 Y ?_;refine An9 5 V (AP Y)<|An9 6 V (Am Y V)<|An9 7 V (AB (off:=1) Aa8 V rfl Af0 Y)<|Ao0 8 V Ah2 Y ?_;refine An9 9 V (Aa AW9 Y)<|Zz (l:=[4])<|Ao5 [true,false] [(8,(_,_))] V rfl (Ws Y hc) ?hk_1 (fun _ _ h=>h.elim) ?hl_1
 case hk_1=>
  rintro _ _ ⟨rfl,rfl⟩;refine ⟨Zk (AV),?_⟩;refine Yw 10 2047 V (Qv (l:=l) underlying173 Ao8 Y Y (List.ne_nil_of_length_pos h0) hl Wo htk) ?_;rintro _ _ ⟨rfl,rfl⟩;refine An9 11 V (Aq Y)<|Ag<|Zn [2] ?_;refine Zx<|AC<|AL V results40 Y (by exact ⟨V,V⟩)
 exact Ae
def MV(k:Int):List UInt8:=if k=1 then [114,111,119]else if k=2 then [114,111,119,115]else if k=3 then [99,111,117,110,116]else if k=4 then [115,117,109]else if k=5 then [109,105,110]else if k=6 then [109,97,120]else [106,111,105,110]
def Gf(k:Int):List Nat:=if k=1 then [1,3]else if k=2\/k=3 then [1,2,3,4]else if k=7 then [5,6,1,2,3,4]else [5,1,2,3,4]
def W9(k:Int):Nat:=if k=1 then 82 else if k=2\/k=3 then 83 else if k=7 then 85 else 84
def IM(k:Int)(i:Int):List UInt8:=if i=1 then(if k=4\/k=5\/k=6 then [111,102]else if k=7 then [116,111]else [])else if i=2/\k=7 then [111,102]else []
def Ml(k:Int)(g1 g7:Nat):Value:=if k=7 then .map (some g7)else if k=4\/k=5\/k=6 then .map (some g1)else .map none
def Je(q:QM)(o:Nat):Int:=if o=1 then q.tb else if o=2 then q.cl else if o=3 then q.lo else if o=4 then q.hi else if o=5 then q.bq else q.ot
def Ra(l x:List UInt8):List UInt8:=l++32::x
def LW(q:QM)(l:List UInt8)(i:Nat):List UInt8:=if IM q.kd i=[]then l else Ra l (IM q.kd i)
def upP(q:QM):Nat->List UInt8
 |0=>MV q.kd
 |i+1=>Ra (LW q (upP q i) i) (Lib.itoa (Je q ((Gf q.kd).getD i 0)))
theorem Nl(q:QM)(i:Nat):upP q (i+1)=Ra (LW q (upP q i) i) (Lib.itoa (Je q ((Gf q.kd).getD i 0))):=rfl
def CV(q:QM):List UInt8:=upP q (Gf q.kd).length
theorem uP(k:Int):(Gf k).length<=6:=by
 unfold Gf;split
 · decide
 · split
   · decide
   · split<;>decide
theorem uO(k:Int):0<(Gf k).length:=by
 unfold Gf;split
 · decide
 · split
   · decide
   · split<;>decide
theorem pE(k:Int):∀o∈Gf k,o<=6:=by
 unfold Gf;split
 · decide
 · split
   · decide
   · split<;>decide
theorem pF(k:Int):∀o∈Gf k,1<=o:=by
 unfold Gf;split
 · decide
 · split
   · decide
   · split<;>decide
theorem nX:∀(k u:Nat),1<=k->u<10^k->Lib.nDigits u<=k
 |0,_,h,_=>by omega
 |k+1,u,_,h=>by
  by_cases h1:u<10
  · rw [Lib.nDigits_small h1];omega
  · rw [Lib.nDigits_big h1]
    have hk:1<=k:=by
     rcases AG3 k with rfl|h2
     · simp at h;omega
     · exact h2
    have:=nX k (u/10) hk (by rw [AP4]at h;omega);omega
theorem SV(n:Int)(h:-9223372036854775808<=n/\n<=9223372036854775807):0<(Lib.itoa n).length/\(Lib.itoa n).length<=21:=by
 unfold Lib.itoa;split
 · rw [ze,Lib.decDigits_length]
   have:=nX 20 n.natAbs Ao9 Ao7;omega
 · rw [Lib.decDigits_length]
   have:=nX 20 n.toNat Ao9 Ao7;have:=Lib.nDigits_pos n.toNat
   omega
theorem OV(k i:Int):(IM k i).length<=2:=by
 unfold IM;split
 · split
   · decide
   · split<;>decide
 · split<;>decide
theorem Wi(k:Int):0<(MV k).length/\(MV k).length<=5:=by
 unfold MV;split
 · decide
 · split
   · decide
   · split
     · decide
     · split
       · decide
       · split
         · decide
         · split<;>decide
theorem K7{q:QM}(hb:∀o,-9223372036854775808<=Je q o/\Je q o<=9223372036854775807):∀i,0<(upP q i).length/\(upP q i).length<=5+25*i
 |0=>by
  have:=Wi q.kd;unfold upP;omega
 |i+1=>by
  have h:=K7 hb i;have h1:=SV _ (hb ((Gf q.kd).getD i 0))
  have h2:=OV q.kd i;unfold upP LW Ra;rw [zG,ze];split
  · omega
  · rw [zG,ze];omega
theorem OL(q:QM)(l:List UInt8)(i:Nat):(LW q l i).length<=l.length+3:=by
 have:=OV q.kd i;unfold LW Ra;split
 · omega
 · rw [zG,ze];omega
theorem rW{q:QM}(h:BH q)(o:Nat):-9223372036854775808<=Je q o/\Je q o<=9223372036854775807:=by
 obtain ⟨h1,h2,h3,h4⟩:=h;unfold Je;split
 · omega
 · split
   · omega
   · split
     · omega
     · split
       · omega
       · split<;>omega
theorem eO(q:QM){o:Nat}(h1:1<=o)(h2:o<=6):(#[I4 q.kd,I4 q.tb,I4 q.cl,I4 q.lo,I4 q.hi,I4 q.bq,I4 q.ot]:Array Value)[o]?=some (I4 (Je q o)):=by
 rcases (by omega:o=1\/o=2\/o=3\/o=4\/o=5\/o=6)with rfl|rfl|rfl|rfl|rfl|rfl<;>rfl
theorem M6(n:Int)(hn:-9223372036854775808<=n/\n<=9223372036854775807)(Tp:TypeId)(zp:Nat×Nat):BJ Tryz.prog 39 #[I4 n] [[(1,.cells (Lib.pow10Tab.map fun z=>Value.int .u64 z).toArray Tp zp)]] (.string (str (Lib.itoa n))):=fun u R w hs=>by
 have hg:=hs.get (1,.cells (Lib.pow10Tab.map fun z=>Value.int .u64 z).toArray Tp zp) Ap0;refine (Tryz.strconv_Itoa n hn.1 hn.2 w ?_).mono ?_
 · unfold Lib.TabIs World.var?
   rw [show Tryz.prog.globalNamed "internal/strconv.uint64pow10"=some 1 by kernel_rfl];simp only [AC4,hg]
 · rintro e w' ⟨rfl,k,os,rfl⟩
   exact .inl ⟨_,_,V,⟨V,V⟩,RI hs k os⟩
theorem Vh{P:Program}{α:Type}{κ:α->Value}{D:α->Prop}{k:α}{env:Env}{d:Option Nat}{ty:TypeId}{pos:String}{af:Array Edge}{g:Option (Nat×Bool)}{t kt et:TypeId}{m x:Operand}{z:Value}(hK:FU P kt κ D)(ht:P.underlying t=some (.map kt et))(hz:∀w:World,(zeroValue et).run P w= .ok z w)(hk:D k)(hx:∀a,ev a env m= .map none)(hy:∀a,ev a env x=κ k):
 OpP P ⟨d,.lookup t m x true,ty,pos,af,g⟩ env [] (.tuple #[z,.bool false]):=fun a w hs=>by
 show((do pure (Next.value (<-Instr.lookup t (ev a env m) (ev a env x) true))):Sem Next).run P w=_;rw [hx a,hy a];have h1:(Instr.findKey kt (κ k) []).run P w= .ok none w:=by
  rcases H6 hK (E5 κ) (fun p h=>by cases h) w k hk with⟨h1,_⟩|⟨j,v,_,h2⟩
  · exact h1
  · simp at h2
 simp only [Instr.lookup,Sem.run_bind,run_underlying ht,Result.andThen,Ed hK hk,Sem.run_pure,h1,hz];rfl
theorem gY(bq:Nat):BR Tryz.prog 82 #[I5 bq] [] (fun r H'=>∃s,Row 108 r (([1,3]:List Nat).map fun o=> .pointer (some ⟨bq,o,none⟩)) s/\H'=[s]):=by
 refine Se func82 ntmps82 [0] ?_;intro u R;refine Zq<|Zg<|Za Y<|Z0<|Zx<|Zq<|Az (n:=8) (0::1::3::0::8::24::63::127::[]) 64 Ao8 Ao8 V<|An9 0 V (AP Y)<|An9 1 V (Am Y V)<|An9 2 V (AB (off:=1) AU9 V rfl AU1 Y)<|An9 3 V (AP Y)<|An9 4 V (Am Y V)<|An9 5 V (AB (off:=3) AU9 V rfl AU1 Y)<|Zz (l:=[6])<|Ao5 [] [] V rfl (Af (vs:=[_,_]) (cs:=[_,_]) AZ8 Af2 Ac9 Y V rfl V rfl V) ?hk_1 (fun _ _ h=>h.elim) ?hl_1
 case hk_1=>
  rintro _ _ ⟨g,rfl,rfl⟩;refine ⟨AV,?_⟩;refine An9 7 V (Aq Y)<|Ag<|Zx<|AC<|AL V results82 Y (by exact ⟨_,JH _ g [.pointer (some ⟨bq,1,none⟩),.pointer (some ⟨bq,3,none⟩)] 2 V Ao9,V⟩)
 exact Ae
theorem Hy(bq:Nat):BR Tryz.prog 83 #[I5 bq] [] (fun r H'=>∃s,Row 108 r (([1,2,3,4]:List Nat).map fun o=> .pointer (some ⟨bq,o,none⟩)) s/\H'=[s]):=by
 refine Se func83 ntmps83 [0] ?_;intro u R;refine Zq<|Zg<|Za Y<|Z0<|Zx<|Zq<|Az (n:=14) (0::1::3::0::8::24::0::64::192::0::512::1536::4095::8191::[]) 4096 Ao8 Ao8 V<|An9 0 V (AP Y)<|An9 1 V (Am Y V)<|An9 2 V (AB (off:=1) AU9 V rfl AU1 Y)<|An9 3 V (AP Y)<|An9 4 V (Am Y V)<|An9 5 V (AB (off:=2) AU9 V rfl AU1 Y)<|An9 6 V (AP Y)<|An9 7 V (Am Y V)<|An9 8 V (AB (off:=3) AU9 V rfl AU1 Y)<|An9 9 V (AP Y)<|An9 10 V (Am Y V)<|An9 11 V (AB (off:=4) AU9 V rfl AU1 Y)<|Zz (l:=[12])<|Ao5 [] [] V rfl (Af (vs:=[_,_,_,_]) (cs:=[_,_,_,_]) AZ8 Af2 Ac9 Y V rfl V rfl V) ?hk_1 (fun _ _ h=>h.elim) ?hl_1
 case hk_1=>
  rintro _ _ ⟨g,rfl,rfl⟩;refine ⟨AV,?_⟩;refine An9 13 V (Aq Y)<|Ag<|Zn [2] ?_;refine Zx<|AC<|AL V results83 Y (by exact ⟨_,JH _ g [.pointer (some ⟨bq,1,none⟩),.pointer (some ⟨bq,2,none⟩),.pointer (some ⟨bq,3,none⟩),.pointer (some ⟨bq,4,none⟩)] 4 V Ao9,V⟩)
 exact Ae
theorem kU(bq:Nat):BR Tryz.prog 84 #[I5 bq] [] (fun r H'=>∃s,Row 108 r (([5,1,2,3,4]:List Nat).map fun o=> .pointer (some ⟨bq,o,none⟩)) s/\H'=[s]):=by
 have hml:=mL;refine Se func84 ntmps84 [0] ?_;intro u R;refine Zq<|Zg<|Za Y<|Z0<|Zx<|Zq<|Az (n:=8) (0::1::3::7::0::16::63::127::[]) 104 Ao8 Ao8 V<|An9 0 V (AP Y)<|An9 1 V (Am Y V)<|An9 2 V (AB (off:=5) AU9 V rfl AU1 Y)<|An9 4 V (AP Y)<|Zz (l:=[3,5])<|Ao5 [] [] V rfl (Af (vs:=[_]) (cs:=[_]) AZ8 Af2 Ac9 Y V rfl V rfl V) ?hk_1 (fun _ _ h=>h.elim) ?hl_1
 case hk_1=>
  rintro _ _ ⟨g,rfl,rfl⟩;refine ⟨AV,?_⟩;refine Zz (l:=[5])<|Ao5 [] [] V rfl (Zw [_] Y call83 Y V (Hy bq)) ?hk_2 Bp ?hl_2
  case hk_2=>
   rintro _ _ ⟨_,⟨s2,hr2,rfl⟩,rfl⟩;refine ⟨AV,?_⟩;obtain ⟨g2,c2,rfl⟩:=hr2.form;refine Yw 6 127 V (GN (by_:=8) AZ8 (V:Tryz.prog.info? 108=some Tryz.t108) V rfl V rfl Y ((JH _ g [.pointer (some ⟨bq,5,none⟩)] 1 V Ao9)) Y (hr2) Wo Wo Ap5 (by((simp;omega))) (by((simp;done)))) ?_;rintro _ _ ⟨sa9,hra9,rfl⟩;obtain ⟨ga9,ca9,rfl⟩:=hra9.form;refine An9 7 V (Aq Y)<|Ag<|Zx<|AC<|AL V results84 Y (by exact ⟨_,hra9,V⟩)
  exact Ae
 refine Ao5 [] [] V rfl (Zw [_] Y call83 Y V (Hy bq)) ?hk_5 Bp ?hl_5
 case hk_5=>
  rintro _ _ ⟨_,⟨s2,hr2,rfl⟩,rfl⟩;refine ⟨AV,?_⟩;obtain ⟨g2,c2,rfl⟩:=hr2.form;refine Yw 3 63 V (Af (vs:=[_]) (cs:=[_]) AZ8 Af2 Ac9 Y V rfl V rfl V) ?_;rintro _ _ ⟨g,rfl,rfl⟩;refine Yw 6 127 V (GN (by_:=8) AZ8 (V:Tryz.prog.info? 108=some Tryz.t108) V rfl V rfl Y ((JH _ g [.pointer (some ⟨bq,5,none⟩)] 1 V Ao9)) Y (hr2) Wo Wo Ap5 (by((simp;omega))) (by((simp;done)))) ?_;rintro _ _ ⟨sa9,hra9,rfl⟩;obtain ⟨ga9,ca9,rfl⟩:=hra9.form;refine An9 7 V (Aq Y)<|Ag<|Zx<|AC<|AL V results84 Y (by exact ⟨_,hra9,V⟩)
 exact Ae
theorem bV(bq:Nat):BR Tryz.prog 85 #[I5 bq] [] (fun r H'=>∃s,Row 108 r (([5,6,1,2,3,4]:List Nat).map fun o=> .pointer (some ⟨bq,o,none⟩)) s/\H'=[s]):=by
 have hml:=mL;refine Se func85 ntmps85 [0] ?_;intro u R;refine Zq<|Zg<|Za Y<|Z0<|Zx<|Zq<|Az (n:=11) (0::1::3::0::8::24::63::0::128::511::1023::[]) 832 Ao8 Ao8 V<|An9 0 V (AP Y)<|An9 1 V (Am Y V)<|An9 2 V (AB (off:=5) AU9 V rfl AU1 Y)<|An9 3 V (AP Y)<|An9 4 V (Am Y V)<|An9 5 V (AB (off:=6) AU9 V rfl AU1 Y)<|An9 7 V (AP Y)<|Zz (l:=[6,8])<|Ao5 [] [] V rfl (Af (vs:=[_,_]) (cs:=[_,_]) AZ8 Af2 Ac9 Y V rfl V rfl V) ?hk_1 (fun _ _ h=>h.elim) ?hl_1
 case hk_1=>
  rintro _ _ ⟨g,rfl,rfl⟩;refine ⟨AV,?_⟩;refine Zz (l:=[8])<|Ao5 [] [] V rfl (Zw [_] Y call83 Y V (Hy bq)) ?hk_2 Bp ?hl_2
  case hk_2=>
   rintro _ _ ⟨_,⟨s2,hr2,rfl⟩,rfl⟩;refine ⟨AV,?_⟩;obtain ⟨g2,c2,rfl⟩:=hr2.form;refine Yw 9 1023 V (GN (by_:=8) AZ8 (V:Tryz.prog.info? 108=some Tryz.t108) V rfl V rfl Y ((JH _ g [.pointer (some ⟨bq,5,none⟩),.pointer (some ⟨bq,6,none⟩)] 2 V Ao9)) Y (hr2) Wo Wo Ap5 (by((simp;omega))) (by((simp;done)))) ?_;rintro _ _ ⟨sa9,hra9,rfl⟩;obtain ⟨ga9,ca9,rfl⟩:=hra9.form;refine An9 10 V (Aq Y)<|Ag<|Zx<|AC<|AL V results85 Y (by exact ⟨_,hra9,V⟩)
  exact Ae
 refine Ao5 [] [] V rfl (Zw [_] Y call83 Y V (Hy bq)) ?hk_5 Bp ?hl_5
 case hk_5=>
  rintro _ _ ⟨_,⟨s2,hr2,rfl⟩,rfl⟩;refine ⟨AV,?_⟩;obtain ⟨g2,c2,rfl⟩:=hr2.form;refine Yw 6 511 V (Af (vs:=[_,_]) (cs:=[_,_]) AZ8 Af2 Ac9 Y V rfl V rfl V) ?_;rintro _ _ ⟨g,rfl,rfl⟩;refine Yw 9 1023 V (GN (by_:=8) AZ8 (V:Tryz.prog.info? 108=some Tryz.t108) V rfl V rfl Y ((JH _ g [.pointer (some ⟨bq,5,none⟩),.pointer (some ⟨bq,6,none⟩)] 2 V Ao9)) Y (hr2) Wo Wo Ap5 (by((simp;omega))) (by((simp;done)))) ?_;rintro _ _ ⟨sa9,hra9,rfl⟩;obtain ⟨ga9,ca9,rfl⟩:=hra9.form;refine An9 10 V (Aq Y)<|Ag<|Zx<|AC<|AL V results85 Y (by exact ⟨_,hra9,V⟩)
 exact Ae
def Sj(g1 g7:Nat):List (Int×Value):=[(1,.agg #[.string ⟨#[114,111,119]⟩,.func (.func 82) #[] #[],.map none]),(2,.agg #[.string ⟨#[114,111,119,115]⟩,.func (.func 83) #[] #[],.map none]),(3,.agg #[.string ⟨#[99,111,117,110,116]⟩,.func (.func 83) #[] #[],.map none]),(4,.agg #[.string ⟨#[115,117,109]⟩,.func (.func 84) #[] #[],.map (some g1)]),(5,.agg #[.string ⟨#[109,105,110]⟩,.func (.func 84) #[] #[],.map (some g1)]),(6,.agg #[.string ⟨#[109,97,120]⟩,.func (.func 84) #[] #[],.map (some g1)]),(7,.agg #[.string ⟨#[106,111,105,110]⟩,.func (.func 85) #[] #[],.map (some g7)])]
theorem YL{g1 g7:Nat}(h:∀p,p∈lm↔p∈Sj g1 g7)(hn:(lm.map (·.1)).Nodup){k:Int}(hk:1<=k/\k<=7):Dm k lm=some (.agg #[.string (str (MV k)),.func (.func (W9 k)) #[] #[],Ml k g1 g7]):=by
 have hm:∀{k:Int} {v:Value},(k,v)∈Sj g1 g7->Dm k lm=some v:=fun hk=>Ck hn ((h _).2 hk);obtain h9|h9|h9|h9|h9|h9|h9:k=1\/k=2\/k=3\/k=4\/k=5\/k=6\/k=7:=by omega
 all_goals subst h9
 all_goals exact hm (by simp [Sj,W9,MV,Ml,str])
structure qi(l1 l7:List (Int×Value)):Prop where
 a:∀p,p∈l1↔p=(1,.string ⟨#[111,102]⟩)
 b:∀p,p∈l7↔p=(2,.string ⟨#[111,102]⟩)\/p=(1,.string ⟨#[116,111]⟩)
theorem Us(k:Int)(g1 g7:Nat):(Ml k g1 g7).oneCell'=true:=by
 unfold Ml;split
 · rfl
 · split<;>rfl
theorem nH{env:Env}{d:Option Nat}{ty:TypeId}{pos:String}{af:Array Edge}{g:Option (Nat×Bool)}{m x:Operand}{q:QM}(hq:1<=q.kd/\q.kd<=7){g1 g7:Nat}{e1 e7:Array MapEntry}{c1 c7:Nat}{l1 l7:List (Int×Value)}(h1:Ce (fun n:Int=>Value.int .i64 n) e1 c1 l1)(h7:Ce (fun n:Int=>Value.int .i64 n) e7 c7 l7)(hG:qi l1 l7){i:Nat}(hx:∀a,ev a env m=Ml q.kd g1 g7)(hy:∀a,ev a env x=I4 (i:Int)):
 OpP Tryz.prog ⟨d,.lookup 91 m x true,ty,pos,af,g⟩ env [(g1,.map e1 c1),(g7,.map e7 c7)] (.tuple #[.string (str (IM q.kd i)),.bool (decide (IM q.kd i≠[]))]):=by
 have hz:=AY5;have hu:=Af6
 by_cases hk7:q.kd=7
 · have hx7:∀a,ev a env m= .map (some g7):=fun a=>by rw [hx a];unfold Ml;rw [Am7 hk7]
   have:=De (d:=d) (ty:=ty) (pos:=pos) (af:=af) (g:=g) (v0:= .string (str (IM q.kd i))) (b0:=decide (IM q.kd i≠[])) (CO AV3 (D:=fun _=>True)) hu hz h7 (fun _ _=>trivial) trivial (k:=(i:Int)) (by
    unfold IM;rw [hk7];by_cases a1:(i:Int)=1
    · rw [a1,Ck h7.keys ((hG.b (1,_)).2 (.inr rfl))];exact ⟨rfl,rfl⟩
    · by_cases a2:(i:Int)=2
      · rw [a2,Ck h7.keys ((hG.b (2,_)).2 (.inl rfl))];exact ⟨rfl,rfl⟩
      · rw [D9 fun p hp he=>by rcases (hG.b p).1 hp with rfl|rfl<;>simp at he<;>omega,Am6 a1,Am6 Ao7];exact ⟨rfl,rfl⟩) hx7 hy
   exact fun a w hs=>this a w fun c hc=>hs c (by rw [zI.1 hc];simp)
 · by_cases hk4:q.kd=4\/q.kd=5\/q.kd=6
   · have hx1:∀a,ev a env m= .map (some g1):=fun a=>by rw [hx a];unfold Ml;rw [Am6 hk7,Am7 hk4]
     have:=De (d:=d) (ty:=ty) (pos:=pos) (af:=af) (g:=g) (v0:= .string (str (IM q.kd i))) (b0:=decide (IM q.kd i≠[])) (CO AV3 (D:=fun _=>True)) hu hz h1 (fun _ _=>trivial) trivial (k:=(i:Int)) (by
      unfold IM;by_cases a1:(i:Int)=1
      · rw [Am7 a1,Am7 hk4,a1,Ck h1.keys ((hG.a (1,_)).2 rfl)];exact ⟨rfl,rfl⟩
      · rw [D9 fun p hp he=>by rw [(hG.a p).1 hp]at he;simp at he;omega,Am6 a1,Am6 Ao7];exact ⟨rfl,rfl⟩) hx1 hy
     exact fun a w hs=>this a w fun c hc=>hs c (by rw [zI.1 hc];simp)
   · have hx0:∀a,ev a env m= .map none:=fun a=>by rw [hx a];unfold Ml;rw [Am6 hk7,Am6 hk4]
     have hg:IM q.kd i=[]:=by
      unfold IM;rw [Am6 hk4,Am6 hk7];split
      · rfl
      · split
        · rename_i h9;exact absurd h9.2 hk7
        · rfl
     rw [hg];have:=Vh (d:=d) (ty:=ty) (pos:=pos) (af:=af) (g:=g) (CO AV3 (D:=fun _=>True)) hu hz (k:=(i:Int)) trivial hx0 hy
     exact fun a w hs=>this a w fun c hc=>by cases hc
theorem Si:BR Tryz.prog 35 #[] [] (fun v H'=>∃b es ck lm g1 e1 c1 l1 g7 e7 c7 l7,v= .map (some b)/\Ce (fun n:Int=>Value.int .i64 n) es ck lm/\(∀p,p∈lm↔p∈Sj g1 g7)/\Ce (fun n:Int=>Value.int .i64 n) e1 c1 l1/\Ce (fun n:Int=>Value.int .i64 n) e7 c7 l7/\qi l1 l7/\H'=[[(b,.map es ck)],[(g1,.map e1 c1)],[(g7,.map e7 c7)]]):=by
 refine Se func35 ntmps35 [] ?_;intro u R;refine Zq<|Zg<|Za Y<|Z0<|Zx<|Zq<|Zg<|Ze (D6) ?_;rintro _ _ ⟨g1,rfl,rfl⟩;refine Ze (Dk (CO AV3 (D:=fun _=>True)) Af6 (E5 _) (fun _ _=>trivial) (trivial) Y Y Y Wo) ?_;rintro _ _ ⟨rfl,es10,ck10,lm10,hm10,hp10,rfl⟩;refine Zm Y<|Za Y<|Z0<|Zx<|Zq<|Zg<|Ze (D6) ?_;rintro _ _ ⟨mb,rfl,rfl⟩;refine Zv (BL (vs:=[(0,.string ⟨#[114,111,119]⟩),(1,.func (.func 82) #[] #[]),(2,.map none)]) (cs:=#[.string ⟨#[114,111,119]⟩,.func (.func 82) #[] #[],.map none]) Y (AY (pl:=#[(0,1),(1,1),(2,1)]) Ad9 Aa9 (fun _=>by kernel_rfl) Ao8))<|Ze (Dk (CO AV3 (D:=fun _=>True)) Ae2 (E5 _) (fun _ _=>trivial) (trivial) Y Y Y Wo) ?_;rintro _ _ ⟨rfl,es1,ck1,lm1,hm1,hp1,rfl⟩;refine Zv (BL (vs:=[(0,.string ⟨#[114,111,119,115]⟩),(1,.func (.func 83) #[] #[]),(2,.map none)]) (cs:=#[.string ⟨#[114,111,119,115]⟩,.func (.func 83) #[] #[],.map none]) Y (AY (pl:=#[(0,1),(1,1),(2,1)]) Ad9 Aa9 (fun _=>by kernel_rfl) Ao8))<|Ze (Dk (CO AV3 (D:=fun _=>True)) Ae2 hm1 (fun _ _=>trivial) (trivial) Y Y Y Wo) ?_;rintro _ _ ⟨rfl,es2,ck2,lm2,hm2,hp2,rfl⟩;refine Zv (BL (vs:=[(0,.string ⟨#[99,111,117,110,116]⟩),(1,.func (.func 83) #[] #[]),(2,.map none)]) (cs:=#[.string ⟨#[99,111,117,110,116]⟩,.func (.func 83) #[] #[],.map none]) Y (AY (pl:=#[(0,1),(1,1),(2,1)]) Ad9 Aa9 (fun _=>by kernel_rfl) Ao8))<|Ze (Dk (CO AV3 (D:=fun _=>True)) Ae2 hm2 (fun _ _=>trivial) (trivial) Y Y Y Wo) ?_;rintro _ _ ⟨rfl,es3,ck3,lm3,hm3,hp3,rfl⟩;refine Zm Y<|Zv (BL (vs:=[(0,.string ⟨#[115,117,109]⟩),(1,.func (.func 84) #[] #[]),(2,.map (some g1))]) (cs:=#[.string ⟨#[115,117,109]⟩,.func (.func 84) #[] #[],.map (some g1)]) Y (AY (pl:=#[(0,1),(1,1),(2,1)]) Ad9 Aa9 (fun _=>by kernel_rfl) Ao8))<|Ze (Dk (CO AV3 (D:=fun _=>True)) Ae2 hm3 (fun _ _=>trivial) (trivial) Y Y Y Wo) ?_;rintro _ _ ⟨rfl,es4,ck4,lm4,hm4,hp4,rfl⟩
 refine Zm Y<|Zv (BL (vs:=[(0,.string ⟨#[109,105,110]⟩),(1,.func (.func 84) #[] #[]),(2,.map (some g1))]) (cs:=#[.string ⟨#[109,105,110]⟩,.func (.func 84) #[] #[],.map (some g1)]) Y (AY (pl:=#[(0,1),(1,1),(2,1)]) Ad9 Aa9 (fun _=>by kernel_rfl) Ao8))<|Ze (Dk (CO AV3 (D:=fun _=>True)) Ae2 hm4 (fun _ _=>trivial) (trivial) Y Y Y Wo) ?_;rintro _ _ ⟨rfl,es5,ck5,lm5,hm5,hp5,rfl⟩;refine Zm Y<|Zv (BL (vs:=[(0,.string ⟨#[109,97,120]⟩),(1,.func (.func 84) #[] #[]),(2,.map (some g1))]) (cs:=#[.string ⟨#[109,97,120]⟩,.func (.func 84) #[] #[],.map (some g1)]) Y (AY (pl:=#[(0,1),(1,1),(2,1)]) Ad9 Aa9 (fun _=>by kernel_rfl) Ao8))<|Ze (Dk (CO AV3 (D:=fun _=>True)) Ae2 hm5 (fun _ _=>trivial) (trivial) Y Y Y Wo) ?_;rintro _ _ ⟨rfl,es6,ck6,lm6,hm6,hp6,rfl⟩;refine Ze (D6) ?_;rintro _ _ ⟨g7,rfl,rfl⟩;refine Ze (Dk (CO AV3 (D:=fun _=>True)) Af6 (E5 _) (fun _ _=>trivial) (trivial) Y Y Y Wo) ?_;rintro _ _ ⟨rfl,es21,ck21,lm21,hm21,hp21,rfl⟩;refine Ze (Dk (CO AV3 (D:=fun _=>True)) Af6 hm21 (fun _ _=>trivial) (trivial) Y Y Y Wo) ?_;rintro _ _ ⟨rfl,es22,ck22,lm22,hm22,hp22,rfl⟩;refine Zm Y<|Zv (BL (vs:=[(0,.string ⟨#[106,111,105,110]⟩),(1,.func (.func 85) #[] #[]),(2,.map (some g7))]) (cs:=#[.string ⟨#[106,111,105,110]⟩,.func (.func 85) #[] #[],.map (some g7)]) Y (AY (pl:=#[(0,1),(1,1),(2,1)]) Ad9 Aa9 (fun _=>by kernel_rfl) Ao8))<|Ze (Dk (CO AV3 (D:=fun _=>True)) Ae2 hm6 (fun _ _=>trivial) (trivial) Y Y Y Wo) ?_;rintro _ _ ⟨rfl,es7,ck7,lm7,hm7,hp7,rfl⟩;refine Zm Y<|Za Y<|Z0<|Zn [0] ?_;refine Zx<|AC<|AL V results35 Y (by
  refine ⟨mb,es7,ck7,lm7,g1,es10,ck10,lm10,g7,es22,ck22,lm22,V,hm7,fun p=>?_,hm10,hm22,⟨fun p=>?_,fun p=>?_⟩,V⟩
  · rw [hp7,hp6,hp5,hp4,hp3,hp2,hp1]
    simp only [Sj,za,AH2,An6,false_and];constructor
    · rintro (rfl|⟨rfl|⟨rfl|⟨rfl|⟨rfl|⟨rfl|⟨rfl,-⟩,-⟩,-⟩,-⟩,-⟩,-⟩)<;>simp
    · rintro (h|h|h|h|h|h|h)<;>subst h<;>simp
  · rw [hp10];simp
  · rw [hp22,hp21];simp only [AH2,false_and,An6]
    constructor
    · rintro (rfl|⟨rfl,-⟩)
      · exact .inl rfl
      · exact .inr rfl
    · rintro (rfl|rfl)
      · exact .inl rfl
      · exact .inr ⟨rfl,by simp⟩)
theorem YN{k:Int}(hk:1<=k/\k<=7):∀(args:Array Value) (w:World),(callFunc (W9 k) args).run Tryz.prog w= .ok (.enter (W9 k) args) w:=by
 unfold W9;split
 · exact call82
 · split
   · exact call83
   · split
     · exact call85
     · exact call84
theorem YM(k:Int)(bq:Nat):BR Tryz.prog (W9 k) #[I5 bq] [] (fun r H'=>∃s,Row 108 r ((Gf k).map fun o=> .pointer (some ⟨bq,o,none⟩)) s/\H'=[s]):=by
 unfold W9 Gf;split
 · exact gY bq
 · split
   · exact Hy bq
   · split
     · exact bV bq
     · exact kU bq
theorem V4(b:Nat)(v:Value)(l:List UInt8)(sb:List A8)(hrow:Row 5 v (l.map u8v) sb)(h0:0<l.length)(hl:l.length<=1000000):BR Tryz.prog 40 #[I5 b] [[(b,.cells #[I5 b,v] 99 (0,0))],sb] (fun r H'=>r= .string (str l)/\H'=[[(b,.cells #[I5 b,v] 99 (0,0))]]):=by
 rcases hrow with⟨_,h1,_⟩|⟨g,cap,cur,z,rfl,rfl,hle,hcm,hcs,htk,hfr⟩
 · simp at h1;subst h1;simp at h0
 · rw [zH]at hle htk⊢
   exact NY b g cap _ l cur z h0 Ao7 Ao7 htk
theorem Qp(b:Nat)(v:Value)(l:List UInt8)(c:UInt8)(sb:List A8)(hrow:Row 5 v (l.map u8v) sb)(hb:l.length<=1099511627776):BR Tryz.prog 38 #[I5 b,.int .u8 (c.toNat:Int)] [[(b,.cells #[I5 b,v] 99 (0,0))],sb] (fun r H'=>∃v' sb' rv,Row 5 v' ((l++[c]).map u8v) sb'/\r=rv/\H'=[[(b,.cells #[I5 b,v'] 99 (0,0))],sb']):=by
 have hml:=mL;obtain ⟨gv,cv,rfl⟩:=hrow.form;refine Se func38 ntmps38 [0,1] ?_;intro u R;refine Zq<|Zg<|Za Y<|Z0<|Zx<|Zq<|Zg<|Zm Y<|Zc [_] Y call86 Y V (Lf b _) ?_;rintro _ _ ⟨_,⟨rfl,rfl⟩,rfl⟩;refine Z0<|Zx<|Zq<|Zg<|Zm Y<|Zm Y<|Zp Y V<|Zh 1 Aa8 V rfl Af0 Y<|Zl Ah2 Y ?_;refine Zm Y<|Ze (Af (vs:=[_]) (cs:=[_]) AW9 Ad5 Ac8 Y V rfl V rfl V) ?_;rintro _ _ ⟨b1,rfl,rfl⟩;refine Ze (EF (by_:=1) (news:=[_]) AW9 (V:Tryz.prog.info? 5=some Tryz.t5) V rfl V rfl Y hrow Y Wo Wh Ap1 V Ap5 Ao9 (by(rw [zH];omega)) (by(rw [zH];omega))) ?_;rintro _ _ ⟨sq,hrq,rfl⟩;obtain ⟨gq,cq,rfl⟩:=hrq.form;refine Zp Y V<|Zh 1 Aa8 V rfl Af0 Y<|Xe (Zs Af0 Y Y V) ?_;refine Z0<|Zn [] ?_;refine Zx<|Zq<|Zg<|Za Y<|Z0<|Zx<|AC<|AL rfl results38 Y (by exact ⟨_,sq,_,(by rw [zK];exact hrq),rfl,rfl⟩)
theorem Jl(b:Nat)(v:Value)(l x:List UInt8)(sb:List A8)(hrow:Row 5 v (l.map u8v) sb)(h0:0<x.length)(hb:l.length+x.length<=1000000):BR Tryz.prog 37 #[.string (str x),I5 b] [[(b,.cells #[I5 b,v] 99 (0,0))],sb] (fun r H'=>∃v' sb',Row 5 v' ((Ra l x).map u8v) sb'/\H'=[[(b,.cells #[I5 b,v'] 99 (0,0))],sb']):=by
 refine Se func37 ntmps37 [0,1] ?_;intro u R;refine Zq<|Zg<|Zc [_,_] Y call38 Y V (Qp b v l 32 sb hrow Ao7) ?_;rintro _ _ ⟨_,⟨v2,s2,rv2,hr2,rfl,rfl⟩,rfl⟩;refine Z0<|Zx<|Zg<|Zm Y<|Zc [_,_] Y call36 Y V (Om b v2 (l++[32]) x s2 hr2 h0 Ap8) ?_;rintro _ _ ⟨_,⟨v3,s3,rv3,hr3,rfl,rfl⟩,rfl⟩;refine Z0<|Cj rfl results37 (by exact ⟨v3,s3,by unfold Ra;rw [show l++32::x=l++[32]++x by simp];exact hr3,rfl⟩)
theorem KF(q:QM)(hq:BH q)(Tp:TypeId)(zp:Nat×Nat):BJ Tryz.prog 11 #[.agg #[I4 q.kd,I4 q.tb,I4 q.cl,I4 q.lo,I4 q.hi,I4 q.bq,I4 q.ot]] [[(1,.cells (Lib.pow10Tab.map fun z=>Value.int .u64 z).toArray Tp zp)]] (.tuple #[.string (str (CV q)),I4 0]):=by
 have hml:=mL;have hk:1<=q.kd/\q.kd<=7:=by obtain ⟨_,_,_,h⟩:=hq;omega
 have hvb:=rW hq;have hfl:=uP q.kd
 have hfp:=uO q.kd;have hwp:=Wi q.kd
 refine Se func11 ntmps11 [0] ?_;intro u R;refine Zq<|Zg<|Ze (Bx #[_,_,_,_,_,_,_]) ?_;rintro _ _ ⟨bq,rfl,rfl⟩;refine Za Y<|Za Y<|Z0<|Zx<|Zq<|Zq<|Zg<|Zo Wh (AA (cs:=#[I4 q.kd,I4 q.tb,I4 q.cl,I4 q.lo,I4 q.hi,I4 q.bq,I4 q.ot]) AX9 AV8 Y Wn (by exact BD V)) ?_;refine Xr [_] Y call34 Y V (JJ q) ?_;rw [Am8 hq];refine Zv (Br Y)<|Z0<|Zx<|AR Y (fun hb=>?_) (fun hb=>?_)
 ·
  cases hb
 refine AJ<|Zx<|Zq<|Az (n:=6) (0::0::2::7::0::31::[]) 49 Ao8 Ao8 V<|An9 1 V (AB (off:=0) AU9 V rfl AU1 Y)<|Ao0 2 V AU2 Y ?_;refine Zz (l:=[0,4])<|Ao5 [true] [(2,(_,_))] V rfl (Zw [] Y call35 Y V (Si)) ?hk_1 Bp ?hl_1
 case hk_1=>
  rintro _ _ ⟨_,⟨mf,es,ck,lm,g1,e1,c1,l1,g7,e7,c7,l7,rfl,hm,hp,h1,h7,hG,rfl⟩,rfl⟩;refine ⟨Zk (AV),?_⟩;have hat:=YL hp hm.keys hk
  refine Ao4 3 rfl Wh (DK (CO AV3 (D:=fun _=>True)) Ae2 Ad9 hm (fun _ _=>trivial) (trivial) (by rw [hat];first|done|rfl) Y Y) ?_;refine Yz 4 0 31 [3,2] [true,true] [(3,(_,_)),(2,(_,_))] V Y V rfl V rfl (EB Ad9 (cs:=#[.string ⟨#[]⟩,.nilFunc,.map none]) Ao8) ?_;rintro _ _ ⟨bf,rfl,rfl⟩;refine ⟨Zk (Zk (AV)),?_⟩;refine Yw 5 63 rfl (BK sizeOf93 Y Y (by intro u hu;rcases (by simpa using hu:u=_\/u=_\/u=_)with rfl|rfl|rfl<;>first|rfl|exact Us _ _ _) Wu (by exact (rfl:_=(#[.string (str (MV q.kd)),.func (.func (W9 q.kd)) #[] #[],Ml q.kd g1 g7]:Array Value))) Ap3 Ao9 (by exact BF _)) ?_;rintro _ _ ⟨rfl,rfl⟩;refine Ag<|Zx<|Zq<|Zg<|Ze (Al zeroValue99 #[_,_]) ?_;rintro _ _ ⟨b,rfl,rfl⟩;refine Z0<|Zn [1,4,5] ?_;refine Zx<|Zq<|BV<|Zg<|Zh 0 Aa9 V rfl AY6 Y<|Zl Af1 Y ?_;refine Zc [_,_] Y call36 Y V (JB b (.slice none 0 0) [] (MV q.kd) [] (G5 _) hwp.1 Ap8) ?_;rintro _ _ ⟨_,⟨v1,sb1,rv1,hr1,rfl,rfl⟩,rfl⟩;refine Z0<|Zx<|Zq<|Zg<|Zv (Bb (vs:=[]) (us:=[_]) Y Y)<|Za Y<|Z0<|Zx<|Zq<|Zq<|Zg<|Zh 1 Aa9 V rfl sizeOf90 Y<|Zl isAgg90 Y ?_;refine Zc [_] Y (YN hk) Y V (YM q.kd bq) ?_;rintro _ _ ⟨_,⟨sf,hrf,rfl⟩,rfl⟩;rcases hrf with⟨_,h0,_⟩|⟨gf,cf,cur,zf,rfl,rfl,hle,hcm,hcs,htk,hfr⟩
  · exfalso;have h0:=congrArg List.length h0;rw [zH]at h0;simp at h0;simp [h0]at hfp
  simp only [zH]at hle htk;simp only [zH];refine Zv (Aa AZ8 Y)<|Zm Y<|Z0<|Zx<|AO<|Zb [26,4,5,6,24,25] ?_;refine BI (e0:=[(26,_)]) (fun m e H=>∃(i:Nat) (vb:Value) (sb:List A8),m=(Gf q.kd).length -i/\(i<=(Gf q.kd).length/\Row 5 vb ((upP q i).map u8v) sb)/\e=[(26,I4 (i:Int))]/\H=[[(b,.cells #[I5 b,vb] 99 (0,0))],sb]) (by exact ⟨0,v1,sb1,V,⟨zT _,hr1⟩,V,V⟩) Wp ?_;rintro _ _ _ ⟨i,vb,sb,rfl,⟨hi,hrb⟩,rfl,rfl⟩;refine Zq<|Zg<|Zv (Au Y Y)<|Z0<|Zx<|Zq<|Aw Y (fun hlt=>?_) (fun hlt=>?_)
  ·
   have hul:=K7 hvb i;obtain ⟨o,ho⟩:∃o,(Gf q.kd)[i]?=some o:=⟨_,zD Ao7⟩;have hog:(Gf q.kd).getD i 0=o:=by rw [AB5,ho];rfl
   have ho6:=pE q.kd o (zP ho);have ho1:=pF q.kd o (zP ho)
   have hcp:cur[i]?=some (.pointer (some ⟨bq,o,none⟩)):=by
    have h:((Gf q.kd).map fun o=>(.pointer (some ⟨bq,o,none⟩):Value))[i]?=some (.pointer (some ⟨bq,o,none⟩)):=by rw [zY,ho];rfl
    rw [<-htk,AA7,Am7 Ao7]at h;simpa using h
   have hgl:=OV q.kd i;have hil:=SV _ (hvb o)
   refine AJ<|Zx<|Zq<|AO<|Zq<|Zg<|Zm Y<|Bq (Ba AZ8 Af2 Y Y Ap2)<|Zl isAgg108 Y (hv:=by exact hcp) ?_;refine Za Y<|Za Y<|Z0<|Zx<|Zq<|Zq<|Zg<|Zh 2 Aa9 V rfl sizeOf91 Y<|Zl isAgg91 Y ?_;refine Zm Y<|CW (cs:=[(g1,.map e1 c1),(g7,.map e7 c7)]) Ap0 (nH hk h1 h7 hG (i:=i) Y Y) V rfl ?_;refine Zm Y<|Zd Y V<|Zd Y V<|Za Y<|Za Y<|Z0<|Zn [4,5,6,8,9,10,24,25,26] ?_;refine Zx<|Zq<|Zg<|Zm Y<|Z0<|Zx<|Aw Y (fun hgl9=>?_) (fun hgl9=>?_)
   ·
    refine Zg<|Zm Y<|Zm Y<|Zc [_] Y (call37) Y V (Jl b vb (upP q i) (IM q.kd i) sb hrb (AR4.2 hgl9) Ao7) ?_;rintro _ _ ⟨_,⟨v4,sb4,hr4,rfl⟩,rfl⟩;refine Z0<|Zx<|Zg<|Zm Y<|Zm Y<|Zp Y V<|Zl AU2 Y (hv:=by exact eO q ho1 ho6) ?_;refine Xr [_] Y call39 Y V (M6 (Je q o) (hvb o) Tp zp) ?_;refine Zc [_] Y (call37) Y V (Jl b _ (LW q (upP q i) i) (Lib.itoa (Je q o)) _ (by unfold LW;(rw [Am6 hgl9];exact hr4)) hil.1 (by have:=OL q (upP q i) i;omega)) ?_;rintro _ _ ⟨_,⟨v5,sb5,hr5,rfl⟩,rfl⟩;rw [show Ra (LW q (upP q i) i) (Lib.itoa (Je q o))=upP q (i+1) from by rw [Nl,hog]]at hr5;refine Z0<|A9<|Zx<|Zg<|Ya (n:=1) Y Y<|Zm Y<|Z0<|Zn [26,4,5,6,24,25] ?_;refine Ad (e':=[(26,_)]) (by exact ⟨i+1,v5,sb5,V,⟨by omega,hr5⟩,V,V⟩)
   refine AJ<|Zx<|Zg<|Zm Y<|Zm Y<|Zp Y V<|Zl AU2 Y (hv:=by exact eO q ho1 ho6) ?_;refine Xr [_] Y call39 Y V (M6 (Je q o) (hvb o) Tp zp) ?_;refine Zc [_] Y (call37) Y V (Jl b _ (LW q (upP q i) i) (Lib.itoa (Je q o)) _ (by unfold LW;(rw [Am7 (AD7.1 hgl9)];exact hrb)) hil.1 (by have:=OL q (upP q i) i;omega)) ?_;rintro _ _ ⟨_,⟨v5,sb5,hr5,rfl⟩,rfl⟩;rw [show Ra (LW q (upP q i) i) (Lib.itoa (Je q o))=upP q (i+1) from by rw [Nl,hog]]at hr5;refine Z0<|A9<|Zx<|Zg<|Ya (n:=1) Y Y<|Zm Y<|Z0<|Zn [26,4,5,6,24,25] ?_;refine Ad (e':=[(26,_)]) (by exact ⟨i+1,v5,sb5,V,⟨by omega,hr5⟩,V,V⟩)
  obtain rfl:i=(Gf q.kd).length:=by omega
  refine BG<|Zt<|Zt<|AX<|Zx<|Zq<|Zg<|Zc [_] Y call40 Y V (V4 b vb _ sb hrb (K7 hvb _).1 (by have:=K7 hvb (Gf q.kd).length;omega)) ?_;rintro _ _ ⟨_,⟨rfl,rfl⟩,rfl⟩;refine Za Y<|Za Y<|Z0<|Zx<|AC<|Ci V results11 Y Y (by exact ⟨V,V⟩)
 refine Ao5 [true] [(2,(_,_))] V rfl (EB Ad9 (cs:=#[.string ⟨#[]⟩,.nilFunc,.map none]) Ao8) ?hk_8 (fun _ _ h=>h.elim) ?hl_8
 case hk_8=>
  rintro _ _ ⟨bf,rfl,rfl⟩;refine ⟨Zk (AV),?_⟩;refine Zz (l:=[0])<|Ao5 [true] [(2,(_,_))] V rfl (Zw [] Y call35 Y V (Si)) ?hk_9 Bp ?hl_9
  case hk_9=>
   rintro _ _ ⟨_,⟨mf,es,ck,lm,g1,e1,c1,l1,g7,e7,c7,l7,rfl,hm,hp,h1,h7,hG,rfl⟩,rfl⟩;refine ⟨Zk (AV),?_⟩;have hat:=YL hp hm.keys hk
   refine Ao4 3 rfl Wh (DK (CO AV3 (D:=fun _=>True)) Ae2 Ad9 hm (fun _ _=>trivial) (trivial) (by rw [hat];first|done|rfl) Y Y) ?_;refine Yw 5 63 rfl (BK sizeOf93 Y Y (by intro u hu;rcases (by simpa using hu:u=_\/u=_\/u=_)with rfl|rfl|rfl<;>first|rfl|exact Us _ _ _) Wu (by exact (rfl:_=(#[.string (str (MV q.kd)),.func (.func (W9 q.kd)) #[] #[],Ml q.kd g1 g7]:Array Value))) Ap3 Ao9 (by exact BF _)) ?_;rintro _ _ ⟨rfl,rfl⟩;refine Ag<|Zx<|Zq<|Zg<|Ze (Al zeroValue99 #[_,_]) ?_;rintro _ _ ⟨b,rfl,rfl⟩;refine Z0<|Zn [1,4,5] ?_;refine Zx<|Zq<|BV<|Zg<|Zh 0 Aa9 V rfl AY6 Y<|Zl Af1 Y ?_;refine Zc [_,_] Y call36 Y V (JB b (.slice none 0 0) [] (MV q.kd) [] (G5 _) hwp.1 Ap8) ?_;rintro _ _ ⟨_,⟨v1,sb1,rv1,hr1,rfl,rfl⟩,rfl⟩;refine Z0<|Zx<|Zq<|Zg<|Zv (Bb (vs:=[]) (us:=[_]) Y Y)<|Za Y<|Z0<|Zx<|Zq<|Zq<|Zg<|Zh 1 Aa9 V rfl sizeOf90 Y<|Zl isAgg90 Y ?_;refine Zc [_] Y (YN hk) Y V (YM q.kd bq) ?_;rintro _ _ ⟨_,⟨sf,hrf,rfl⟩,rfl⟩;rcases hrf with⟨_,h0,_⟩|⟨gf,cf,cur,zf,rfl,rfl,hle,hcm,hcs,htk,hfr⟩
   · exfalso;have h0:=congrArg List.length h0;rw [zH]at h0;simp at h0;simp [h0]at hfp
   simp only [zH]at hle htk;simp only [zH];refine Zv (Aa AZ8 Y)<|Zm Y<|Z0<|Zx<|AO<|Zb [26,4,5,6,24,25] ?_;refine BI (e0:=[(26,_)]) (fun m e H=>∃(i:Nat) (vb:Value) (sb:List A8),m=(Gf q.kd).length -i/\(i<=(Gf q.kd).length/\Row 5 vb ((upP q i).map u8v) sb)/\e=[(26,I4 (i:Int))]/\H=[[(b,.cells #[I5 b,vb] 99 (0,0))],sb]) (by exact ⟨0,v1,sb1,V,⟨zT _,hr1⟩,V,V⟩) Wp ?_;rintro _ _ _ ⟨i,vb,sb,rfl,⟨hi,hrb⟩,rfl,rfl⟩;refine Zq<|Zg<|Zv (Au Y Y)<|Z0<|Zx<|Zq<|Aw Y (fun hlt=>?_) (fun hlt=>?_)
   ·
    have hul:=K7 hvb i;obtain ⟨o,ho⟩:∃o,(Gf q.kd)[i]?=some o:=⟨_,zD Ao7⟩;have hog:(Gf q.kd).getD i 0=o:=by rw [AB5,ho];rfl
    have ho6:=pE q.kd o (zP ho);have ho1:=pF q.kd o (zP ho)
    have hcp:cur[i]?=some (.pointer (some ⟨bq,o,none⟩)):=by
     have h:((Gf q.kd).map fun o=>(.pointer (some ⟨bq,o,none⟩):Value))[i]?=some (.pointer (some ⟨bq,o,none⟩)):=by rw [zY,ho];rfl
     rw [<-htk,AA7,Am7 Ao7]at h;simpa using h
    have hgl:=OV q.kd i;have hil:=SV _ (hvb o)
    refine AJ<|Zx<|Zq<|AO<|Zq<|Zg<|Zm Y<|Bq (Ba AZ8 Af2 Y Y Ap2)<|Zl isAgg108 Y (hv:=by exact hcp) ?_;refine Za Y<|Za Y<|Z0<|Zx<|Zq<|Zq<|Zg<|Zh 2 Aa9 V rfl sizeOf91 Y<|Zl isAgg91 Y ?_;refine Zm Y<|CW (cs:=[(g1,.map e1 c1),(g7,.map e7 c7)]) Ap0 (nH hk h1 h7 hG (i:=i) Y Y) V rfl ?_;refine Zm Y<|Zd Y V<|Zd Y V<|Za Y<|Za Y<|Z0<|Zn [4,5,6,8,9,10,24,25,26] ?_;refine Zx<|Zq<|Zg<|Zm Y<|Z0<|Zx<|Aw Y (fun hgl9=>?_) (fun hgl9=>?_)
    ·
     refine Zg<|Zm Y<|Zm Y<|Zc [_] Y (call37) Y V (Jl b vb (upP q i) (IM q.kd i) sb hrb (AR4.2 hgl9) Ao7) ?_;rintro _ _ ⟨_,⟨v4,sb4,hr4,rfl⟩,rfl⟩;refine Z0<|Zx<|Zg<|Zm Y<|Zm Y<|Zp Y V<|Zl AU2 Y (hv:=by exact eO q ho1 ho6) ?_;refine Xr [_] Y call39 Y V (M6 (Je q o) (hvb o) Tp zp) ?_;refine Zc [_] Y (call37) Y V (Jl b _ (LW q (upP q i) i) (Lib.itoa (Je q o)) _ (by unfold LW;(rw [Am6 hgl9];exact hr4)) hil.1 (by have:=OL q (upP q i) i;omega)) ?_;rintro _ _ ⟨_,⟨v5,sb5,hr5,rfl⟩,rfl⟩;rw [show Ra (LW q (upP q i) i) (Lib.itoa (Je q o))=upP q (i+1) from by rw [Nl,hog]]at hr5;refine Z0<|A9<|Zx<|Zg<|Ya (n:=1) Y Y<|Zm Y<|Z0<|Zn [26,4,5,6,24,25] ?_;refine Ad (e':=[(26,_)]) (by exact ⟨i+1,v5,sb5,V,⟨by omega,hr5⟩,V,V⟩)
    refine AJ<|Zx<|Zg<|Zm Y<|Zm Y<|Zp Y V<|Zl AU2 Y (hv:=by exact eO q ho1 ho6) ?_;refine Xr [_] Y call39 Y V (M6 (Je q o) (hvb o) Tp zp) ?_;refine Zc [_] Y (call37) Y V (Jl b _ (LW q (upP q i) i) (Lib.itoa (Je q o)) _ (by unfold LW;(rw [Am7 (AD7.1 hgl9)];exact hrb)) hil.1 (by have:=OL q (upP q i) i;omega)) ?_;rintro _ _ ⟨_,⟨v5,sb5,hr5,rfl⟩,rfl⟩;rw [show Ra (LW q (upP q i) i) (Lib.itoa (Je q o))=upP q (i+1) from by rw [Nl,hog]]at hr5;refine Z0<|A9<|Zx<|Zg<|Ya (n:=1) Y Y<|Zm Y<|Z0<|Zn [26,4,5,6,24,25] ?_;refine Ad (e':=[(26,_)]) (by exact ⟨i+1,v5,sb5,V,⟨by omega,hr5⟩,V,V⟩)
   obtain rfl:i=(Gf q.kd).length:=by omega
   refine BG<|Zt<|Zt<|AX<|Zx<|Zq<|Zg<|Zc [_] Y call40 Y V (V4 b vb _ sb hrb (K7 hvb _).1 (by have:=K7 hvb (Gf q.kd).length;omega)) ?_;rintro _ _ ⟨_,⟨rfl,rfl⟩,rfl⟩;refine Za Y<|Za Y<|Z0<|Zx<|AC<|Ci V results11 Y Y (by exact ⟨V,V⟩)
  exact Ae
 exact Ae
end Go.Proofs.YteaiajghbkenoaaGreatDoor
namespace Go.Proofs.YteaiajghbkenoaaGreatDoor
open Go.Proofs.Tryz
open Go Go.RowKit Gw
set_option maxRecDepth 100000
attribute [local irreducible] Gw.At Gw.Nx Gw.Ops
open Go.Sort
theorem pX(xs:List ByteArray):xs.map Value.string=(xs.map fun x=>x.data.toList).map encStr:=by
 rw [AF0];rfl
theorem qA(ls:List (List UInt8)):ls.map encStr=(ls.map fun l=>(⟨l.toArray⟩:ByteArray)).map Value.string:=by
 rw [AF0];rfl
theorem R9{v:Value}{zs:List ByteArray}{s:List A8}(hr:Row 9 v (zs.map Value.string) s)(hl:zs.length<=1000000):BR Tryz.prog 58 #[v] [s] (fun r H'=>∃(zs':List ByteArray) (s':List A8),r= .tuple #[]/\zs'.Perm zs/\(zs'.Pairwise fun x y=>x.data.toList<=y.data.toList)/\Row 9 v (zs'.map Value.string) s'/\H'=[s']):=fun u R w hs=>by
 obtain ⟨ls,hls⟩:∃ls,ls=zs.map fun x=>x.data.toList:=⟨_,rfl⟩;have hll:ls.length=zs.length:=by rw [hls,zH]
 obtain ⟨ts,hts⟩:∃ts,ts=ls.mergeSort fun x y=>decide (x<=y):=⟨_,rfl⟩;have hpm:ts.Perm ls:=by rw [hts];exact AR5 _ _
 have hso:ts.Pairwise fun x y=>x<=y:=by
  have h:=List.pairwise_mergeSort (le:=fun x y:List UInt8=>decide (x<=y)) (fun a b c h1 h2=>by simp only [Am9]at*;exact List.le_trans h1 h2) (fun a b=>by simp only [AG7,Am9];exact List.le_total a b) ls;rw [hts];simpa only [Am9]using h
 have hp2:(ts.map fun l=>(⟨l.toArray⟩:ByteArray)).Perm zs:=by
  have h:=hpm.map fun l=>(⟨l.toArray⟩:ByteArray);rw [hls,AF0]at h;have e:zs.map ((fun l:List UInt8=>(⟨l.toArray⟩:ByteArray))∘fun x=>x.data.toList)=zs:=by
   conv=>rhs;rw [<-List.map_id zs]
   rfl
  rwa [e]at h
 have hs2:(ts.map fun l=>(⟨l.toArray⟩:ByteArray)).Pairwise fun x y=>x.data.toList<=y.data.toList:=by rw [AH8];exact hso
 rcases hr with⟨rfl,h0,rfl⟩|⟨g,cap,cur,z,rfl,rfl,hle,hcm,hcs,htk,hfr⟩
 · have hx:zs=[]:=by simpa using h0
   subst hx;refine (Tryz.slices_Sort_string_none none 0 w).mono ?_;rintro e w' ⟨rfl,rfl⟩;exact .inl ⟨_,[[]],V,⟨[],[],V,.refl _,.nil,by simp [G5],V⟩,hs⟩
 · rw [pX,<-hls]at htk
   rw [zH]at hle⊢;rw [zH]at htk;have hs1:Sat u ([(g,.cells cur 9 z)]::R) w:=by simpa using hs
   have hb:=hs1.get (g,.cells cur 9 z) Ap0;have hH:=Sg (zs:=ls) hb Ao7 hfr htk
   have hc:=Tryz.slices_Sort_string g 0 cap ls w hH (zw.1 hb).1 Ao7;rw [hll]at hc;refine hc.mono ?_;rintro e w' ⟨rfl,n,os,rfl⟩;rw [<-hts];have htl:=hpm.length_eq
   refine .inl ⟨_,[[(g,.cells (putCells encStr 0 ts.toArray cur) 9 z)]],V,⟨_,_,V,hp2,hs2,?_,V⟩,by simpa using hs1.sorted (n:=n) _ os⟩;refine .inr ⟨g,cap,_,z,by rw [zH,zH,htl,hll],rfl,by rw [zH,zH];omega,hcm,by rw [Lu];exact hcs,?_,by rw [Lu];exact hfr⟩;rw [<-qA,zH];exact XN _ _ Ao7
theorem bR(mi:Nat):BR Tryz.prog 64 #[.map (some mi)] [] (fun r H'=>∃b,r= .func (.func 122) #[] #[I5 b]/\H'=[[(b,.cells #[.map (some mi)] 118 (0,0))]]):=by
 refine Se func64 ntmps64 [0] ?_;intro u R;refine Zq<|Zg<|Ze (Bx #[_]) ?_;rintro _ _ ⟨b,rfl,rfl⟩;refine Za Y<|Z0<|Zx<|Zq<|Zg<|Zv (Bb (vs:=[]) (us:=[_]) Y Y)<|Za Y<|Z0<|Zx<|AC<|AL V results64 Y (by exact ⟨b,V,V⟩)
variable{es:Array MapEntry}{ck:Nat}{lm:List (ByteArray×Value)}
theorem bS(hm:Ce (fun n:ByteArray=>Value.string n) es ck lm)(b mi:Nat):K4 Tryz.prog 122 #[I5 b] [[(b,.cells #[.map (some mi)] 118 (0,0))]] (fun _ s=>(mi,Obj.map es ck)∈s) (fun x:ByteArray=>#[.string x]) (MH lm) (fun ys=>ys.Perm (lm.map (·.1))):=by
 intro l J hA hy s hJ;refine Se func122 ntmps122 [0,1] ?_;intro u R;refine Zq<|Zg<|Zl Ae7 Y ?_;refine Ze (Ko AZ2 Y (F6 Wo (hA _ s hJ))) ?_;rintro _ _ ⟨ib,rfl,rfl⟩;refine Z0<|Zx<|AO<|Zb [0,5] ?_;refine BI (e0:=[]) (fun m e H=>∃(js:List Nat) (seen:Array Nat) (s:List A8),m=lm.length -js.length/\(IQ es js seen/\J ((D5 lm js).map (·.1)) s)/\e=[]/\H=[[(ib,.mapIter (some mi) ck seen ck)],s]) (by exact ⟨[],#[],s,V,⟨Jt _,hJ⟩,V,V⟩) Wp ?_;rintro _ _ _ ⟨js,seen,s,rfl,⟨hit,hJ⟩,rfl,rfl⟩;have hjl:=El es.size js hit.nodup hit.lt
 rw [hm.size]at hjl;refine Zq<|Zg<|Ze (Mt hm hit Y Wo (F6 Wo (hA _ s hJ))) ?_;rintro _ _ hnx;rcases hnx with⟨hdone,rfl,rfl⟩|⟨jn,pn,seen2,hpn,hjn,hi2,rfl,rfl⟩
 ·
  refine Zd Y V<|Z0<|Zx<|Zq<|AR Y (fun hb=>?_) (fun hb=>?_)
  ·
   cases hb
  refine BG<|Zt<|Zt<|AX<|Cj V results122 (by exact ⟨_,s,hdone.map _,V,hJ⟩)
 refine Zd Y V<|Z0<|Zx<|Zq<|AR Y (fun hb=>?_) (fun hb=>?_)
 ·
  have hjl2:=El es.size (js++[jn]) hi2.nodup hi2.lt;rw [hm.size,zG,zU]at hjl2;have hla:(js++[jn]).length=js.length+1:=by rw [zG];rfl
  have hpr:MH lm ((D5 lm js).map (·.1)++[pn.1]):=by
   have h:=Rq (l:=lm) hi2.nodup (fun j hj=>by rw [<-hm.size];exact hi2.lt j hj);rw [FY lm js hpn,zK]at h;exact h
  have hyk:=hy ((D5 lm js).map (·.1)) pn.1 s hpr hJ;refine AJ<|Zx<|AO<|Zq<|Zg ?_;have hmi:=hA _ s hJ
  refine CW (cs:=[(ib,.mapIter (some mi) ck seen2 ck),(mi,.map es ck)]) (by simp [hmi]) (Ir hm hi2 hpn Y) V rfl ?_;refine Zd Y V<|Za Y<|Z0<|Zx<|Zq<|Zg<|Zm Y<|Zm Y<|Ze (Fz (vs:=[_]) Y Y (hyk) Wp) ?_;rintro _ _ ⟨_,⟨s',rfl,rfl,hJ'⟩,rfl⟩;rw [show(D5 lm js).map (·.1)++[pn.1]=(D5 lm (js++[jn])).map (·.1) by rw [FY lm js hpn,zK];rfl]at hJ';refine Zv (Br Y)<|Z0<|Zx<|AR Y (fun hb=>?_) (fun hb=>?_)
  ·
   cases hb
  refine AJ<|A9<|Zn [0,5] ?_;refine Ad (e':=[]) (by exact ⟨js++[jn],seen2,s',V,⟨hi2,hJ'⟩,V,V⟩)
 cases hb
variable{M:List A8}
theorem QY(hm:Ce (fun n:ByteArray=>Value.string n) es ck lm)(hn:lm.length<=1000000)(b mi:Nat)(hmi:(mi,Obj.map es ck)∈M):BR Tryz.prog 201 #[.slice none 0 0,.func (.func 122) #[] #[I5 b]] [[(b,.cells #[.map (some mi)] 118 (0,0))],M] (fun r H'=>∃(zs:List ByteArray) (s':List A8),zs.Perm (lm.map (·.1))/\Row 9 r (zs.map Value.string) s'/\H'=[M,s']):=by
 have hml:=mL;refine Cz func201 V ntmps201 V ?_;intro u R;refine Zb [0,1] ?_;refine Zq<|Zg<|Ze (Bx #[_]) ?_;rintro _ _ ⟨bs,rfl,rfl⟩;refine Za Y<|Z0<|Zx<|Zq<|Zq<|Zg<|Zm Y<|Z0<|Zx<|AO<|Zb [2,6] ?_;refine BV<|Ia (H0:=_) (R:=_) (I:=(fun(pre:List ByteArray) H=>∃v2 s2,H=[[(bs,.cells #[v2] 45 (0,0))],s2,M]/\Row 9 v2 (pre.map Value.string) s2)) (E:=fun x e Hn=>e=[(5,.string x),(7,.string x)]/\Hn=[]) rfl Y call122 (bS hm b mi) (fun pre H1 c d h=>by obtain ⟨v2,s2,rfl,_⟩:=h;simp [hmi]) Y rfl Wp (⟨_,[],rfl,G5 _⟩) ?ha_2 ?hbd_2 ?hk_2
 case ha_2=>
  intro _ x _ _;refine Zg<|Za Y<|Z0<|LQ (e:=[(5,_),(7,_)]) (Hn:=[]) ?_;exact ⟨V,V⟩
 case hbd_2=>
  intro l pre x u e9 Hn9 H1 R1 r9 hxs hI hE9;obtain ⟨rfl,rfl⟩:=hE9;obtain ⟨v2,s2,rfl,hr⟩:=hI;have hpl:=hxs.len
  obtain ⟨gv,cv,rfl⟩:=hr.form;refine AO<|Zg<|Zl Ae3 Y ?_;refine Zm Y<|Ze (Af (vs:=[_]) (cs:=[_]) AV1 AY6 AY5 Y V rfl V rfl V) ?_;rintro _ _ ⟨b2,rfl,rfl⟩;refine Ze (EF (by_:=16) (news:=[_]) AV1 (V:Tryz.prog.info? 9=some Tryz.t9) V rfl V rfl Y hr Y Wo Wh Ap1 V Ap5 Ao9 (by(simp only [zH];omega)) (by(simp only [zH];omega))) ?_;rintro _ _ ⟨sq,hrq,rfl⟩;obtain ⟨gq,cq,rfl⟩:=hrq.form;refine Xe (Zs Aa1 Y Y V) ?_;refine Z0<|A9<|Ej rfl (by exact ⟨_,_,rfl,by rw [zK];exact hrq⟩)
 intro D1 ys H2 hfl hI2;obtain ⟨v2,s2,rfl,hr⟩:=hI2;refine Zn [2] ?_;refine A9<|Zx<|Zq<|Zg<|Zl Ae3 Y ?_;refine Za Y<|Z0<|Zx<|AC<|Fq V (aN results201 Y) Wo (by exact ⟨ys,s2,hfl,hr,V⟩)
theorem Tv(hm:Ce (fun n:ByteArray=>Value.string n) es ck lm)(hn:lm.length<=1000000)(b mi:Nat)(hmi:(mi,Obj.map es ck)∈M):BR Tryz.prog 121 #[.func (.func 122) #[] #[I5 b]] [[(b,.cells #[.map (some mi)] 118 (0,0))],M] (fun r H'=>∃(zs:List ByteArray) (s':List A8),zs.Perm (lm.map (·.1))/\Row 9 r (zs.map Value.string) s'/\H'=[M,s']):=by
 refine Se func121 ntmps121 [0] ?_;intro u R;refine Zq<|Zg<|Za Y<|Z0<|Zx<|Zq<|Zg<|Zm Y<|Zc [_,_] Y call201 Y V (QY hm hn b mi hmi) ?_;rintro _ _ ⟨_,⟨zs,s2,hp,hr,rfl⟩,rfl⟩;refine Za Y<|Z0<|Zx<|AC<|AL V results121 Y (by exact ⟨zs,s2,hp,hr,V⟩)
theorem VR(hm:Ce (fun n:ByteArray=>Value.string n) es ck lm)(hn:lm.length<=1000000)(b mi:Nat)(hmi:(mi,Obj.map es ck)∈M):BR Tryz.prog 63 #[.func (.func 122) #[] #[I5 b]] [[(b,.cells #[.map (some mi)] 118 (0,0))],M] (fun r H'=>∃(zs:List ByteArray) (s':List A8),zs.Perm (lm.map (·.1))/\(zs.Pairwise fun x y=>x.data.toList<=y.data.toList)/\Row 9 r (zs.map Value.string) s'/\H'=[M,s']):=by
 refine Se func63 ntmps63 [0] ?_;intro u R;refine Zq<|Zg<|Za Y<|Z0<|Zx<|Zq<|Zg<|Zm Y<|Zc [_] Y call121 Y V (Tv hm hn b mi hmi) ?_;rintro _ _ ⟨_,⟨zs,s2,hp,hr,rfl⟩,rfl⟩;have hzl:=hp.length_eq
 rw [zH]at hzl;refine Za Y<|Z0<|Zx<|Zq<|Zg<|Zm Y<|Zc [_] Y call58 Y V (R9 hr Ao7) ?_;rintro _ _ ⟨_,⟨zs2,s3,rfl,hp2,hso,hr3,rfl⟩,rfl⟩;refine Z0<|Zx<|Zq<|Zg<|Zm Y<|Za Y<|Z0<|Zx<|AC<|AL V results63 Y (by exact ⟨zs2,s3,hp2.trans hp,hso,hr3,V⟩)
end Go.Proofs.YteaiajghbkenoaaGreatDoor
namespace Go.Proofs.YteaiajghbkenoaaGreatDoor
open Go.Proofs.Tryz
open Go Go.RowKit Gw
set_option maxRecDepth 100000
attribute [local irreducible] Gw.At Gw.Nx Gw.Ops
structure Bn where
 b:Nat
 key:ByteArray
 te:Int
 sz:Int
structure Bd where
 r:Nat
 E:List Bn
 nx:Nat->Value
 bf:Nat->Value
 cap:Int
 sh:Value
 us:Value
 mv:Value
 fr:Int
def DC(f:Nat->Value)(a:Nat)(v:Value):Nat->Value:=fun x=>if x=a then v else f x
theorem HY(f:Nat->Value)(a:Nat)(v:Value):DC f a v a=v:=Am7 rfl
variable{x:Nat}
theorem EG(f:Nat->Value){a:Nat}(v:Value)(h:x≠a):DC f a v x=f x:=Am6 h
def Bn.ch(nx bf:Nat->Value)(e:Bn):A8:=(e.b,.cells #[.string e.key,I4 e.te,I4 e.sz,bf e.b,nx e.b] 178 (0,0))
def Bd.S(z:Bd):List A8:=(z.r,.cells #[.string ⟨#[]⟩,I4 0,I4 0,z.bf z.r,z.nx z.r,I4 z.cap,z.sh,z.us,z.mv,I4 z.fr] 182 (0,0))::z.E.map (Bn.ch z.nx z.bf)
def Bd.bl(z:Bd):List Nat:=z.r::z.E.map (·.b)
theorem Bd.keys(z:Bd):z.S.map (·.1)=z.bl:=by
 unfold Bd.S Bd.bl;rw [zx,AF0];rfl
theorem Bd.root(z:Bd):(z.r,Obj.cells #[.string ⟨#[]⟩,I4 0,I4 0,z.bf z.r,z.nx z.r,I4 z.cap,z.sh,z.us,z.mv,I4 z.fr] 182 (0,0))∈z.S:=zX ..
variable{e:Bn}
theorem Bd.node(z:Bd)(he:e∈z.E):(e.b,Obj.cells #[.string e.key,I4 e.te,I4 e.sz,z.bf e.b,z.nx e.b] 178 (0,0))∈z.S:=zW _ (zS (f:=Bn.ch z.nx z.bf) he)
theorem G7{α β:Type}{f:α->β}:∀{l:List α},(l.map f).Nodup->∀{x y:α},x∈l->y∈l->f x=f y->x=y
 |a::l,hn,x,y,hx,hy,e=>by
  rw [zx,AB9]at hn;rcases za.1 hx with h1|h1
  · rcases za.1 hy with h2|h2
    · rw [h1,h2]
    · exact absurd (by rw [<-h1,e];exact zS h2) hn.1
  · rcases za.1 hy with h2|h2
    · exact absurd (by rw [<-h2,<-e];exact zS h1) hn.1
    · exact G7 hn.2 h1 h2 e
theorem Bd.upd(z:Bd)(hd:z.bl.Nodup){a:Nat}(ha:a∈z.bl):∃c T,(a,Obj.cells c T (0,0))∈z.S/\(c.size=5\/c.size=10)/\∀v,Hr a (.cells (c.setIfInBounds 4 v) T (0,0)) z.S=({z with nx:=DC z.nx a v}:Bd).S/\Hr a (.cells (c.setIfInBounds 3 v) T (0,0)) z.S=({z with bf:=DC z.bf a v}:Bd).S:=by
 have hd':(z.r::z.E.map (·.b)).Nodup:=hd;rw [AB9]at hd';rcases za.1 ha with rfl|ha
 · refine ⟨_,_,z.root,.inr rfl,fun v=>?_⟩
   have hn:∀e∈z.E,e.b≠z.r:=fun e he h=>hd'.1 (h▸zS he);constructor<;>
   · unfold Hr Bd.S
     rw [zx,Am7 rfl];congr 1
     · simp only [HY];rfl
     · rw [AF0]
       refine AG4 fun e he=>?_;show(if e.b=z.r then _ else _)=_
       rw [Am6 (hn e he)];unfold Bn.ch;simp only [EG _ _ (hn e he)]
 · obtain ⟨e,he,rfl⟩:=zQ.1 ha
   refine ⟨_,_,z.node he,.inl V,fun v=>?_⟩;have hr:z.r≠e.b:=fun h=>hd'.1 (h▸zS he)
   constructor<;>
   · unfold Hr Bd.S
     rw [zx,Am6 hr];congr 1
     · simp only [EG _ _ hr]
     · rw [AF0]
       refine AG4 fun e' he'=>?_;show(if e'.b=e.b then _ else _)=_
       split
       · rename_i h
         obtain rfl:=G7 hd'.2 he' he h;unfold Bn.ch;simp only [HY];rfl
       · rename_i h
         unfold Bn.ch;simp only [EG _ _ h]
theorem Bd.fr_upd(z:Bd)(hd:z.bl.Nodup)(v:Int):Hr z.r (.cells ((#[.string ⟨#[]⟩,I4 0,I4 0,z.bf z.r,z.nx z.r,I4 z.cap,z.sh,z.us,z.mv,I4 z.fr]:Array Value).setIfInBounds 9 (I4 v)) 182 (0,0)) z.S=({z with fr:=v}:Bd).S:=by
 have hd':(z.r::z.E.map (·.b)).Nodup:=hd;rw [AB9]at hd';have hn:∀e∈z.E,e.b≠z.r:=fun e he h=>hd'.1 (h▸zS he)
 unfold Hr Bd.S;rw [zx,Am7 rfl];congr 1;rw [AF0];refine AG4 fun e he=>?_;show(if e.b=z.r then _ else _)=_
 rw [Am6 (hn e he)]
def Ef:Nat->List Nat->Nat->List (Nat×Nat)
 |a,[],c=>[(a,c)]
 |a,b::l,c=>(a,b)::Ef b l c
theorem ND:∀(a:Nat) (l:List Nat),∃A p,∀y,Ef a l y=A++[(p,y)]
 |a,[]=>⟨[],a,fun _=>rfl⟩
 |a,b::l=>by
  obtain ⟨A,p,h⟩:=ND b l;exact ⟨(a,b)::A,p,fun y=>by rw [Ef,h];rfl⟩
theorem au:∀(l:List Nat) (c:Nat),∃n B,∀x,Ef x l c=(x,n)::B
 |[],c=>⟨c,[],fun _=>rfl⟩
 |b::l,c=>⟨b,Ef b l c,fun _=>rfl⟩
theorem Lv:∀(a:Nat) (l:List Nat) (x:Nat) (m:List Nat) (c:Nat),Ef a (l++x::m) c=Ef a l x++Ef x m c
 |a,[],x,m,c=>rfl
 |a,b::l,x,m,c=>by
  show(a,b)::Ef b (l++x::m) c=_;rw [Lv b l x m c];rfl
theorem Ii:∀(a:Nat) (l:List Nat) (c:Nat),(Ef a l c).map (·.1)=a::l
 |a,[],c=>rfl
 |a,b::l,c=>by rw [Ef,zx,Ii b l c]
theorem Jn:∀(a:Nat) (l:List Nat) (c:Nat),(Ef a l c).map (·.2)=l++[c]
 |a,[],c=>rfl
 |a,b::l,c=>by rw [Ef,zx,Jn b l c];rfl
def pV(b:Nat):Value:=I5 b
def J7(nx bf:Nat->Value)(r:Nat)(l:List Nat):Prop:=∀q∈Ef r l r,nx q.1=pV q.2/\bf q.2=pV q.1
variable{bf nx:Nat->Value}{r:Nat}
theorem mF(h:nx r=pV r)(h2:bf r=pV r):J7 nx bf r []:=fun q hq=>by
 obtain rfl:=zI.1 hq;exact ⟨h,h2⟩
variable{l:List Nat}
theorem RX(hn:(r::l).Nodup):((Ef r l r).map (·.1)).Nodup/\((Ef r l r).map (·.2)).Nodup:=by
 rw [Ii,Jn];refine ⟨hn,?_⟩;rw [AB9]at hn;rw [AA5];exact ⟨hn.2,by simp,fun x hx y hy=>by rw [zI.1 hy];rintro rfl;exact hn.1 hx⟩
theorem mG{l1 l2:List Nat}(hn:(r::(l1++x::l2)).Nodup)(h:J7 nx bf r (l1++x::l2)):∃p n,p∈r::(l1++l2)/\n∈r::(l1++l2)/\bf x=pV p/\nx x=pV n/\J7 (DC nx p (pV n)) (DC bf n (pV p)) r (l1++l2):=by
 obtain ⟨A,p,hA⟩:=ND r l1;obtain ⟨n,B,hB⟩:=au l2 r;have e1:Ef r (l1++x::l2) r=A++(p,x)::(x,n)::B:=by rw [Lv,hA,hB];simp
 have e2:Ef r (l1++l2) r=A++(p,n)::B:=by
  cases l2 with
  |nil=>
   have h1:=hB 0;injection h1 with h2 h3
   injection h2 with _ h2
   subst h2 h3;rw [zV,hA]
  |cons y m=>
   have h1:=hB 0;injection h1 with h2 h3
   injection h2 with _ h2
   subst h2;rw [Lv,hA,<-h3];simp
 obtain ⟨d1,d2⟩:=RX hn;rw [e1,zK,zx,zx,AA5,AB9,AB9]at d1 d2;have hp:p∈r::(l1++l2):=by
  have:=Ii r (l1++l2) r;rw [e2]at this;rw [<-this];simp
 have hq:n∈r::(l1++l2):=by
  have:=Jn r (l1++l2) r;rw [e2]at this;have h9:n∈l1++l2++[r]:=by rw [<-this];simp
  rcases zJ.1 h9 with h9|h9
  · exact zW _ h9
  · rw [zI.1 h9];exact zX ..
 refine ⟨p,n,hp,hq,(h _ (by rw [e1];simp:(p,x)∈_)).2,(h _ (by rw [e1];simp:(x,n)∈_)).1,fun q hq=>?_⟩;rw [e2]at hq;rcases zJ.1 hq with hq|hq
 · have h0:=h q (by rw [e1];simp [hq])
   rw [EG _ _ fun e=>d1.2.2 _ (zS hq) p (zX ..) e,EG _ _ fun e=>d2.2.2 _ (zS hq) n (zW _ (zX ..)) e];exact h0
 · rcases za.1 hq with rfl|hq
   · exact ⟨HY _ _ _,HY _ _ _⟩
   · have h0:=h q (by rw [e1];simp [hq])
     rw [EG _ _ fun e=>d1.2.1.1 (by show p∈_;rw [<-e];exact zW _ (zS hq)),EG _ _ fun e=>d2.2.1.2.1 (by show n∈_;rw [<-e];exact zS hq)];exact h0
theorem mH(hn:(r::l).Nodup)(hx:x∉r::l)(h:J7 nx bf r l):∃p,p∈r::l/\bf r=pV p/\J7 (DC (DC nx x (pV r)) p (pV x)) (DC (DC bf x (pV p)) r (pV x)) r (l++[x]):=by
 obtain ⟨A,p,hA⟩:=ND r l;have e1:=hA r
 have e2:Ef r (l++[x]) r=A++(p,x)::[(x,r)]:=by rw [Lv,hA];simp [Ef]
 obtain ⟨d1,d2⟩:=RX hn;rw [e1,zK,AA5]at d1 d2;have hp:p∈r::l:=by
  have:=Ii r l r;rw [e1]at this;rw [<-this];simp
 have hxr:x≠r:=fun e=>hx (by rw [e];exact zX ..);have hxp:x≠p:=fun e=>hx (by rw [e];exact hp)
 refine ⟨p,hp,(h _ (by rw [e1];simp:(p,r)∈_)).2,fun q hq=>?_⟩;rw [e2]at hq;have hfst:∀q∈A,q.1∈r::l:=fun q hq=>by
  rw [<-Ii r l r,e1];exact zS (by simp [hq])
 have hsnd:∀q∈A,q.2≠x:=fun q hq e=>by
  have h9:q.2∈l++[r]:=by rw [<-Jn r l r,e1];exact zS (by simp [hq])
  rw [e]at h9;rcases zJ.1 h9 with h9|h9
  · exact hx (zW _ h9)
  · exact hxr (zI.1 h9)
 rcases zJ.1 hq with hq|hq
 · have h0:=h q (by rw [e1];simp [hq])
   rw [EG _ _ fun e=>d1.2.2 _ (zS hq) p (zX ..) e,EG _ _ fun e=>hx (by rw [<-e];exact hfst q hq),EG _ _ fun e=>d2.2.2 _ (zS hq) r (zX ..) e,EG _ _ (hsnd q hq)];exact h0
 · rcases za.1 hq with rfl|hq
   · exact ⟨HY _ _ _,by show DC _ _ _ x=_;rw [EG _ _ hxr,HY]⟩
   · obtain rfl:=zI.1 hq
     exact ⟨by show DC _ _ _ x=_;rw [EG _ _ hxp,HY],HY _ _ _⟩
theorem dV(r:Nat)(T:TypeId)(zz:Nat×Nat)(c0 c1 c2 p0 n0 c5 c6 c7 c8 c9:Value):BR Tryz.prog 89 #[I5 r] [[(r,.cells #[c0,c1,c2,p0,n0,c5,c6,c7,c8,c9] T (0,0))]] (fun v H'=>v=undef/\H'=[[(r,.cells #[c0,c1,c2,I5 r,I5 r,c5,c6,c7,c8,c9] T (0,0))]]):=by
 refine Se func89 ntmps89 [0] ?_;intro u R;refine Az (n:=16) (0::0::0::4::12::0::32::96::29::285::797::1821::4095::8191::16383::32767::[]) 34816 Ao8 Ao8 V<|An9 0 V (AP Y)<|An9 1 V (AP Y)<|An9 2 V (AP Y)<|An9 3 V (Am Y V)<|An9 4 V (AB (off:=0) Ag1 V rfl Al5 Y)<|An9 5 V (AP Y)<|An9 6 V (Am Y V)<|An9 7 V (AB (off:=0) Ag1 V rfl Al5 Y)<|An9 8 V (Am Y V)<|An9 9 V (AB (off:=0) Ag1 V rfl Al5 Y)<|An9 10 V (AB (off:=3) AY0 V rfl AZ9 Y)<|Zz (l:=[11])<|Ao5 [] [] V rfl (Zs AZ9 Y Y V) ?hk_1 (fun _ _ h=>h.elim) ?hl_1
 case hk_1=>
  rintro _ _ ⟨rfl,rfl⟩;refine ⟨AV,?_⟩;refine An9 12 V (Am Y V)<|An9 13 V (AB (off:=0) Ag1 V rfl Al5 Y)<|An9 14 V (AB (off:=4) AY0 V rfl AZ9 Y)<|Zz (l:=[15])<|Ao5 [] [] V rfl (Zs AZ9 Y Y V) ?hk_2 (fun _ _ h=>h.elim) ?hl_2
  case hk_2=>
   rintro _ _ ⟨rfl,rfl⟩;refine ⟨AV,?_⟩;refine Ag<|Cj V results89 (by exact ⟨V,V⟩)
  exact Ae
 exact Ae
theorem Wx(z:Bd)(hd:z.bl.Nodup)(he:e∈z.E){p n:Nat}(hp:p∈z.bl)(hn:n∈z.bl)(hbf:z.bf e.b=pV p)(hnx:z.nx e.b=pV n):BR Tryz.prog 144 #[.pointer (some ⟨e.b,0,none⟩)] [z.S] (fun v H'=>v=undef/\H'=[({z with nx:=DC z.nx p (pV n),bf:=DC z.bf n (pV p)}:Bd).S]):=by
 obtain ⟨c1,T1,m1,s1,u1⟩:=z.upd hd hp;obtain ⟨c2,T2,m2,s2,u2⟩:=Bd.upd ({z with nx:=DC z.nx p (pV n)}:Bd) hd hn;refine Se func144 ntmps144 [0] ?_;intro u R;refine Az (n:=22) (0::1::3::7::0::16::48::112::0::256::768::1792::0::4096::12288::28672::65535::131071::262143::524287::1048575::2097151::[]) 2359296 Ao8 Ao8 V<|An9 0 V (AP Y)<|An9 1 V (Am Y V)<|An9 2 V (AB (off:=3) AY0 V rfl AZ9 Y)<|Cw (D':=15) 3 V rfl V (F6 Wo (z.node he)) (BX isAgg176 Y (by exact congrArg some hbf)) ?_;refine An9 4 V (AP Y)<|An9 5 V (Am Y V)<|An9 6 V (AB (off:=4) AY0 V rfl AZ9 Y)<|Cw (D':=255) 7 V rfl V (F6 Wo (z.node he)) (BX isAgg176 Y (by exact congrArg some hnx)) ?_;refine An9 8 V (AP Y)<|An9 9 V (Am Y V)<|An9 10 V (AB (off:=4) AY0 V rfl AZ9 Y)<|Cw (D':=4095) 11 V rfl V (F6 Wo (z.node he)) (BX isAgg176 Y (by exact congrArg some hnx)) ?_;refine An9 12 V (AP Y)<|An9 13 V (Am Y V)<|An9 14 V (AB (off:=3) AY0 V rfl AZ9 Y)<|Cw (D':=65535) 15 V rfl V (F6 Wo (z.node he)) (BX isAgg176 Y (by exact congrArg some hbf)) ?_;refine An9 16 V (Am Y V)<|An9 17 V (AB (off:=4) AY0 V rfl AZ9 Y)<|Zz (l:=[18])<|Ao5 [false,false,false,false] [] V rfl (GM AZ9 Y Y V Wo (m1) (by exact (u1 _).1) Ao7 (by exact BF _)) ?hk_1 (fun _ _ h=>h.elim) ?hl_1
 case hk_1=>
  rintro _ _ ⟨rfl,rfl⟩;refine ⟨AV,?_⟩;refine An9 19 V (Am Y V)<|An9 20 V (AB (off:=3) AY0 V rfl AZ9 Y)<|Zz (l:=[21])<|Ao5 [] [] V rfl (GM AZ9 Y Y V Wo (m2) (by exact (u2 _).2) Ao7 (by exact BF _)) ?hk_2 (fun _ _ h=>h.elim) ?hl_2
  case hk_2=>
   rintro _ _ ⟨rfl,rfl⟩;refine ⟨AV,?_⟩;refine Ag<|Cj V results144 (by exact ⟨V,V⟩)
  exact Ae
 exact Ae
variable{v:Value}{k:Nat}
theorem VY{e:TypeId}{xs:List Value}{s:List A8}(h:Row e v xs s){y0:Value}(hy:xs[k]?=some y0):∃b cap cur z,v=I6 b xs.length cap/\s=[(b,.cells cur e z)]/\k<cur.size/\IA z cur.size/\cur[k]?=some y0/\∀y:Value,Row e v (xs.set k y) [(b,.cells (cur.setIfInBounds k y) e z)]:=by
 have hk:=(zF.1 hy).1;obtain ⟨b,cap,cur,z,hv,hs,h1,h2,h3⟩:=sH h hk;refine ⟨b,cap,cur,z,hv,hs,h1,h2,?_,h3⟩;obtain ⟨b',cap',cur',z',hv',hs',_,_,_,htk,_⟩:=h.some Ao7;rw [hs]at hs';injection hs' with hs' _
 injection hs' with _ hs'
 injection hs' with hs' _
 subst hs';rw [<-AA3,<-AL8 hk,htk];exact hy
def FC(L:List Bn)(k:Int):Int:=(L.map fun e=>if e.te=k then e.sz else 0).sum
def Kk(L:List Bn):Int:=(L.map (·.sz)).sum
structure DW(z:Bd)(ns:Nat)(L:List Bn)(mb:Nat)(es:Array MapEntry)(ck:Nat)(lm:List (ByteArray×Value))(su:List A8):Prop where
 sub:∀e∈L,e∈z.E
 ring:J7 z.nx z.bf z.r (L.map (·.b))
 mv:z.mv= .map (some mb)
 map:Ce (fun k:ByteArray=>Value.string k) es ck lm
 mem:∀p,p∈lm↔∃e∈L,p=(e.key,pV e.b)
 keys:(L.map (·.key)).Nodup
 used:Row 3 z.us ((List.range ns).map fun k:Nat=>Value.int .i64 (FC L (k:Int))) su
 te:∀e∈L,0<=e.te/\e.te<(ns:Int)
 sz:∀e∈L,1<=e.sz
 free:z.fr=z.cap -Kk L
 room:0<=z.fr
 sh:∃a c,z.sh= .slice a ns c
 cap:1<=z.cap/\z.cap<=1000000
theorem Qw(A B:List Bn)(k:Int):FC (A++B) k=FC A k+FC B k:=by unfold FC;rw [zK,AT4]
theorem Ot(e:Bn)(L:List Bn)(k:Int):FC (e::L) k=(if e.te=k then e.sz else 0)+FC L k:=by unfold FC;rw [zx,AQ2]
theorem Ku(A B:List Bn):Kk (A++B)=Kk A+Kk B:=by unfold Kk;rw [zK,AT4]
theorem Jf(e:Bn)(L:List Bn):Kk (e::L)=e.sz+Kk L:=by unfold Kk;rw [zx,AQ2]
theorem Mv:∀{L:List Bn},(∀e∈L,1<=e.sz)->∀k,0<=FC L k/\FC L k<=Kk L
 |[],_,k=>by unfold FC Kk;simp
 |e::L,h,k=>by
  have h1:=Mv (fun x hx=>h x (zW _ hx)) k;have h2:=h e (zX ..)
  rw [Ot,Jf];split<;>omega
variable{ns:Nat}
theorem UN(f g:Nat->Value)(hk:k<ns)(hv:g k=v)(hg:∀i,i<ns->i≠k->g i=f i):((List.range ns).map f).set k v=(List.range ns).map g:=by
 apply AD5;intro i;rw [AG1,zH,AJ4,zY,zY];by_cases hi:i<ns
 · rw [AH5 hi]
   by_cases e:k=i
   · subst e;rw [Am7 rfl,Am7 hi,<-hv];rfl
   · rw [Am6 e];exact congrArg some (hg i hi (AT8 e)).symm
 · rw [Am6 (by omega:¬k=i),AC7 Ap8];rfl
variable{z:Bd}{L:List Bn}{mb ck:Nat}{es:Array MapEntry}{lm:List (ByteArray×Value)}{su:List A8}
theorem DW.nodup(h:DW z ns L mb es ck lm su)(hd:z.bl.Nodup):(z.r::L.map (·.b)).Nodup:=by
 have hd':(z.r::z.E.map (·.b)).Nodup:=hd;rw [AB9]at hd'⊢;refine ⟨fun hm=>?_,?_⟩
 · obtain ⟨e,he,hb⟩:=zQ.1 hm
   exact hd'.1 (hb▸zS (h.sub e he))
 · have hk:=AH8.1 h.keys
   refine AH8.2 (hk.imp_of_mem fun{a b} ha hb hne e=>hne ?_);rw [G7 hd'.2 (h.sub a ha) (h.sub b hb) e]
theorem DW.use(h:DW z ns L mb es ck lm su)(k:Int):0<=FC L k/\FC L k<=1000000:=by
 have h1:=Mv h.sz k;have h2:=h.free;have h3:=h.room;have h4:=h.cap
 omega
theorem DW.size(h:DW z ns L mb es ck lm su)(he:e∈L):1<=e.sz/\e.sz<=1000000:=by
 obtain ⟨A,B,rfl⟩:=AI8 he;have h1:=Ku A (e::B)
 rw [Jf]at h1;have hA:=(Mv (fun x hx=>h.sz x (zR _ hx):∀x∈A,1<=x.sz) 0)
 have hB:=(Mv (fun x hx=>h.sz x (zZ _ (zW _ hx)):∀x∈B,1<=x.sz) 0);have h2:=h.free;have h3:=h.room;have h4:=h.cap;have h5:=h.sz e he
 omega
theorem DW.get(h:DW z ns L mb es ck lm su)(he:e∈L):Dm e.key lm=some (pV e.b):=Ck h.map.keys ((h.mem _).2 ⟨e,he,rfl⟩)
theorem DW.none{z:Bd}{ns:Nat}{L:List Bn}{mb:Nat}{es:Array MapEntry}{ck:Nat}{lm:List (ByteArray×Value)}{su:List A8}(h:DW z ns L mb es ck lm su){K:ByteArray}(hK:∀e∈L,e.key≠K):Dm K lm=none:=D9 fun p hp=>by
 obtain ⟨e,he,rfl⟩:=(h.mem p).1 hp;exact hK e he
variable{L2 L1:List Bn}
theorem aU(h:DW z ns (L1++e::L2) mb es ck lm su)(hr:J7 nx bf z.r ((L1++L2).map (·.b))){es':Array MapEntry}{ck':Nat}{lm':List (ByteArray×Value)}
 (hm:Ce (fun k:ByteArray=>Value.string k) es' ck' lm')(hp:∀p,p∈lm'↔p∈lm/\p.1≠e.key)(hk:e.te=(k:Int)){su':List A8}(hu:Row 3 z.us (((List.range ns).map fun i:Nat=>Value.int .i64 (FC (L1++e::L2) (i:Int))).set k (I4 (FC (L1++e::L2) (k:Int)+(-1)*e.sz))) su'):
 DW {z with nx:=nx,bf:=bf,fr:=z.fr -(-1)*e.sz} ns (L1++L2) mb es' ck' lm' su':=by
 have hin:∀x∈L1++L2,x∈L1++e::L2:=fun x hx=>by
  rcases zJ.1 hx with hx|hx
  · exact zR _ hx
  · exact zZ _ (zW _ hx)
 have hkn:k<ns:=by have:=(h.te e Ap0).2;omega
 have hus:∀i:Int,FC (L1++e::L2) i=FC (L1++L2) i+if e.te=i then e.sz else 0:=fun i=>by
  rw [Qw,Ot,Qw];omega
 have hks:=h.keys;rw [zK,zx,AA5,AB9]at hks;have hne:∀x∈L1++L2,x.key≠e.key:=fun x hx=>by
  rcases zJ.1 hx with hx|hx
  · exact hks.2.2 _ (zS hx) _ (zX ..)
  · exact fun hh=>hks.2.1.1 (hh▸zS hx)
 have h1:=h.sz e Ap0;have h2:=h.room
 have h3:=h.free;rw [Ku,Jf]at h3;refine ⟨fun x hx=>h.sub x (hin x hx),hr,h.mv,hm,fun p=>?_,?_,?_,fun x hx=>h.te x (hin x hx),fun x hx=>h.sz x (hin x hx),?_,?_,h.sh,h.cap⟩
 · rw [hp,h.mem]
   constructor
   · rintro ⟨⟨x,hx,rfl⟩,hn⟩
     rcases zJ.1 hx with hx|hx
     · exact ⟨x,zR _ hx,rfl⟩
     · rcases za.1 hx with rfl|hx
       · exact absurd rfl hn
       · exact ⟨x,zZ _ hx,rfl⟩
   · rintro ⟨x,hx,rfl⟩
     exact ⟨⟨x,hin x hx,V⟩,hne x hx⟩
 · rw [zK,AA5]
   exact ⟨hks.1,hks.2.1.2,fun a ha b hb=>hks.2.2 a ha b (zW _ hb)⟩
 · rw [UN (v:=I4 (FC (L1++e::L2) (k:Int)+(-1)*e.sz)) (fun i:Nat=>Value.int .i64 (FC (L1++e::L2) (i:Int))) (fun i:Nat=>Value.int .i64 (FC (L1++L2) (i:Int))) hkn (by show Value.int .i64 _=Value.int .i64 _;rw [hus,Am7 hk];congr 1;omega) (fun i _ hi=>by
    show Value.int .i64 _=Value.int .i64 _;rw [hus,Am6 Ao7];congr 1;omega)]at hu
   exact hu
 · show z.fr -(-1)*e.sz=z.cap -_
   rw [Ku];omega
 · show 0<=z.fr -(-1)*e.sz
   omega
theorem Rh(h:DW z ns L mb es ck lm su)(hr:J7 nx bf z.r ((L++[e]).map (·.b))){es':Array MapEntry}{ck':Nat}{lm':List (ByteArray×Value)}
 (hK:∀x∈L,x.key≠e.key)(hm:Ce (fun k:ByteArray=>Value.string k) es' ck' lm')(hp:∀p,p∈lm'↔p=(e.key,pV e.b)\/(p∈lm/\p.1≠e.key))(hk:e.te=(k:Int))(hkn:k<ns)(hs:1<=e.sz/\e.sz<=z.fr){su':List A8}(hu:Row 3 z.us (((List.range ns).map fun i:Nat=>Value.int .i64 (FC L (i:Int))).set k (I4 (FC L (k:Int)+1*e.sz))) su'):
 DW {z with E:=z.E++[e],nx:=nx,bf:=bf,fr:=z.fr -1*e.sz} ns (L++[e]) mb es' ck' lm' su':=by
 have hus:∀i:Int,FC (L++[e]) i=FC L i+if e.te=i then e.sz else 0:=fun i=>by
  rw [Qw,Ot];unfold FC;simp
 have h3:=h.free;have hall:∀{Q:Bn->Prop},(∀x∈L,Q x)->Q e->∀x∈L++[e],Q x:=fun h1 h2 x hx=>by
  rcases zJ.1 hx with hx|hx
  · exact h1 x hx
  · rw [zI.1 hx];exact h2
 refine ⟨hall (fun x hx=>zR _ (h.sub x hx)) (zZ _ (zI.2 V)),hr,h.mv,hm,fun p=>?_,?_,?_,hall h.te ⟨by omega,by omega⟩,hall h.sz hs.1,?_,?_,h.sh,h.cap⟩
 · rw [hp,h.mem]
   constructor
   · rintro (rfl|⟨⟨x,hx,rfl⟩,_⟩)
     · exact ⟨e,by simp,rfl⟩
     · exact ⟨x,zR _ hx,rfl⟩
   · rintro ⟨x,hx,rfl⟩
     rcases zJ.1 hx with hx|hx
     · exact .inr ⟨⟨x,hx,rfl⟩,hK x hx⟩
     · rw [zI.1 hx];exact .inl rfl
 · rw [zK,AA5]
   refine ⟨h.keys,by simp,fun a ha b hb=>?_⟩;obtain ⟨x,hx,rfl⟩:=zQ.1 ha;obtain rfl:=zI.1 hb;exact hK x hx
 · rw [UN (v:=I4 (FC L (k:Int)+1*e.sz)) (fun i:Nat=>Value.int .i64 (FC L (i:Int))) (fun i:Nat=>Value.int .i64 (FC (L++[e]) (i:Int))) hkn (by show Value.int .i64 _=Value.int .i64 _;rw [hus,Am7 hk];congr 1;omega) (fun i _ hi=>by
    show Value.int .i64 _=Value.int .i64 _;rw [hus,Am6 Ao7];congr 1;omega)]at hu
   exact hu
 · show z.fr -1*e.sz=z.cap -_
   rw [Ku,Jf];unfold Kk at*;simp;omega
 · show 0<=z.fr -1*e.sz
   omega
theorem QC(z:Bd)(hd:z.bl.Nodup)(he:e∈z.E){p:Nat}(hp:p∈z.bl)(hbf:z.bf z.r=pV p):BR Tryz.prog 96 #[.pointer (some ⟨e.b,0,none⟩),.pointer (some ⟨z.r,0,none⟩)] [z.S] (fun v H'=>v=undef/\H'=[({z with nx:=DC (DC z.nx e.b (pV z.r)) p (pV e.b),bf:=DC (DC z.bf e.b (pV p)) z.r (pV e.b)}:Bd).S]):=by
 have hb:e.b∈z.bl:=zW _ (zS he);obtain ⟨c1,T1,m1,s1,u1⟩:=z.upd hd hb;obtain ⟨c2,T2,m2,s2,u2⟩:=Bd.upd ({z with bf:=DC z.bf e.b (pV p)}:Bd) hd hb;obtain ⟨c3,T3,m3,s3,u3⟩:=Bd.upd ({z with bf:=DC z.bf e.b (pV p),nx:=DC z.nx e.b (pV z.r)}:Bd) hd hp;obtain ⟨c4,T4,m4,s4,u4⟩:=Bd.upd ({z with bf:=DC z.bf e.b (pV p),nx:=DC (DC z.nx e.b (pV z.r)) p (pV e.b)}:Bd) hd (zX ..);refine Se func96 ntmps96 [0,1] ?_;intro u R;refine Zq<|Zg<|Zm Y<|Zm Y<|Zm Y<|Zp Y V<|Zh 3 AY0 V rfl AZ9 Y<|CW (Gc Wo (z.root)) (BX isAgg176 Y (by exact congrArg some hbf)) V rfl ?_;refine Zm Y<|Zp Y V<|Zh 3 AY0 V rfl AZ9 Y<|Xe (GM AZ9 Y Y V Wo (m1) (by exact (u1 _).2) Ao7 (by exact BF _)) ?_;refine Zp Y V<|Zh 4 AY0 V rfl AZ9 Y<|Xe (GM AZ9 Y Y V Wo (m2) (by exact (u2 _).1) Ao7 (by exact BF _)) ?_;refine Z0<|Zn [0,1] ?_;refine Zx<|Zg<|Zm Y<|Zp Y V<|Zh 3 AY0 V rfl AZ9 Y<|CW (Gc Wo ((Bd.node ({z with bf:=DC z.bf e.b (pV p),nx:=DC z.nx e.b (pV z.r)}:Bd) he))) (BX isAgg176 Y (by exact congrArg some (HY _ _ _))) V rfl ?_;refine Zm Y<|Zm Y<|Zm Y<|Zp Y V<|Zh 4 AY0 V rfl AZ9 Y<|Xe (GM AZ9 Y Y V Wo (m3) (by exact (u3 _).1) Ao7 (by exact BF _)) ?_;refine Zp Y V<|Zh 3 AY0 V rfl AZ9 Y<|Xe (GM AZ9 Y Y V Wo (m4) (by exact (u4 _).2) Ao7 (by exact BF _)) ?_;refine Z0<|Cj V results96 (by exact ⟨V,V⟩)
theorem NU(z:Bd)(hd:z.bl.Nodup)(he:e∈z.E){sg:Int}(hsg:sg=1\/sg=-1){xs:List Value}(hu:Row 3 z.us xs su)(hk:e.te=(k:Int)){x:Int}(hx:xs[k]?=some (I4 x))(hxi:-1000000000<=x/\x<=1000000000)(hsz:0<=e.sz/\e.sz<=1000000000)(hfr:-1000000000<=z.fr/\z.fr<=1000000000):BR Tryz.prog 97 #[.pointer (some ⟨z.r,0,none⟩),.pointer (some ⟨e.b,0,none⟩),I4 sg] [z.S,su] (fun v H'=>v=undef/\∃su',Row 3 z.us (xs.set k (I4 (x+sg*e.sz))) su'/\H'=[({z with fr:=z.fr -sg*e.sz}:Bd).S,su']):=by
 have hkl:=(zF.1 hx).1;obtain ⟨bu,cu,cur,zu,hus,rfl,hks,hfz,hcur,hset⟩:=VY hu hx;have hm:-1000000000<=sg*e.sz/\sg*e.sz<=1000000000:=by rcases hsg with rfl|rfl<;>omega
 refine Se func97 ntmps97 [0,1,2] ?_;intro u R;refine Zq<|Az (n:=19) (0::1::3::7::0::16::48::112::255::511::0::0::2048::6144::14336::31744::65535::131071::262143::[]) 262144 Ao8 Ao8 V<|An9 0 V (AP Y)<|An9 1 V (Am Y V)<|An9 2 V (AB (off:=7) AX0 V rfl Al8 Y)<|Cw (D':=15) 3 V rfl V (F6 Wo (z.root)) (BX Am4 Y (by exact congrArg some hus)) ?_;refine An9 4 V (AP Y)<|An9 5 V (Am Y V)<|An9 6 V (AB (off:=1) AY0 V rfl AU1 Y)<|Cw (D':=255) 7 V rfl V (F6 Wo (z.node he)) (BX AU2 Y (by exact congrArg (fun t=>some (Value.int .i64 t)) hk)) ?_;refine An9 8 rfl (Ba AV0 AU1 Y Y (by first|omega|(rw [AC8];omega)))<|Ao0 9 rfl AU2 Y (hv:=by exact hcur) ?_;refine An9 10 V (AP Y)<|An9 11 V (AP Y)<|An9 12 V (Am Y V)<|An9 13 V (AB (off:=2) AY0 V rfl AU1 Y)<|Cw (D':=32767) 14 V rfl V (F6 Wo (z.node he)) (BX AU2 Y Ap1) ?_
 (refine Ev (D':=65535) 15 (nE Y Y (IntWalk.i64_in _ ?_)) ?_;(focus (omega)))
 (refine Ev (D':=131071) 16 (Ke Y Y (IntWalk.i64_in _ ?_)) ?_;(focus (omega)))
 refine An9 17 rfl (Ba AV0 AU1 Y Y (by first|omega|(rw [AC8];omega)))<|Yw 18 524287 rfl (Zs AU1 Y Y rfl (hi:=by omega) (hz:=by exact hfz)) ?_;rintro _ _ ⟨rfl,rfl⟩;refine Ag<|Zn [0,1,2] ?_;refine Zx<|Az (n:=14) (0::1::3::7::0::0::32::96::224::496::1023::2047::4095::8191::[]) 8192 Ao8 Ao8 V<|An9 0 V (AP Y)<|An9 1 V (Am Y V)<|An9 2 V (AB (off:=9) AX0 V rfl AU1 Y)<|Cw (D':=15) 3 V rfl V (F6 Wo (z.root)) (BX AU2 Y Ap1) ?_;refine An9 4 V (AP Y)<|An9 5 V (AP Y)<|An9 6 V (Am Y V)<|An9 7 V (AB (off:=2) AY0 V rfl AU1 Y)<|Cw (D':=511) 8 V rfl V (F6 Wo (z.node he)) (BX AU2 Y Ap1) ?_
 (refine Ev (D':=1023) 9 (nE Y Y (IntWalk.i64_in _ ?_)) ?_;(focus (omega)))
 (refine Ev (D':=2047) 10 (Hz Y Y (IntWalk.i64_in _ ?_)) ?_;(focus (omega)))
 refine An9 11 V (Am Y V)<|An9 12 V (AB (off:=9) AX0 V rfl AU1 Y)<|Zz (l:=[13])<|Ao5 [false,false] [] V rfl (GM AU1 Y Y V Wo (z.root) (by exact z.fr_upd hd _) Wn (by exact BF _)) ?hk_2 (fun _ _ h=>h.elim) ?hl_2
 case hk_2=>
  rintro _ _ ⟨rfl,rfl⟩;refine ⟨AV,?_⟩;refine Ag<|Cj V results97 (by exact ⟨V,_,hset _,V⟩)
 exact Ae
theorem jf(z:Bd)(hmv:z.mv= .map (some mb))(hm:Ce (fun k:ByteArray=>Value.string k) es ck lm)(K:ByteArray):BJ Tryz.prog 143 #[.pointer (some ⟨z.r,0,none⟩),.string K] [z.S,[(mb,.map es ck)]] (.tuple #[(Dm K lm).getD (.pointer none),.bool (Dm K lm).isSome]):=by
 refine Se func143 ntmps143 [0,1] ?_;intro u R;refine Zq<|Zg<|Za Y<|Za Y<|Z0<|Zx<|Zq<|Zq<|Zg<|Zm Y<|Zv (BU Ak2 Y Y)<|Z0<|Zx<|AR Y (fun hb9=>?_) (fun hb9=>?_)
 ·
  cases hb9
 refine AJ<|Zx<|Zq<|Zg<|Zm Y<|Zp Y V<|Zh 8 AX0 V rfl Al6 Y<|CW (Gc Wo (z.root)) (BX isAgg175 Y (by exact congrArg some hmv)) V rfl ?_;refine Zm Y<|Zo Wh (De (DT AW6 (D:=fun _=>True)) Ag2 Al7 hm (fun _ _=>trivial) (trivial) (⟨V,V⟩) Y Y) ?_;refine Zm Y<|Zd Y V<|Zd Y V<|Za Y<|Za Y<|Z0<|Zn [6,7] ?_;refine Zx<|Zq<|Zg<|Zm Y<|Zm Y<|Za Y<|Za Y<|Z0<|Zx<|AC<|Ci V results143 Y Y (by exact ⟨V,V⟩)
theorem U8(hok:DW z ns (L1++e::L2) mb es ck lm su)(hd:z.bl.Nodup):BR Tryz.prog 92 #[.pointer (some ⟨z.r,0,none⟩),.pointer (some ⟨e.b,0,none⟩)] [z.S,[(mb,.map es ck)],su] (fun v H'=>v=undef/\∃z' es' ck' lm' su',z'.r=z.r/\z'.cap=z.cap/\z'.E=z.E/\DW z' ns (L1++L2) mb es' ck' lm' su'/\H'=[z'.S,[(mb,.map es' ck')],su']):=by
 have he:e∈z.E:=hok.sub e Ap0;have hnd:=hok.nodup hd
 obtain ⟨p,n,hp,hn,hbf,hnx,hring⟩:=mG (l1:=L1.map (·.b)) (l2:=L2.map (·.b)) (x:=e.b) (by simpa using hnd) (by simpa using hok.ring);have hsb:∀q,q∈z.r::(L1.map (·.b)++L2.map (·.b))->q∈z.bl:=fun q hq=>by
  rcases za.1 hq with rfl|hq
  · exact zX ..
  · rw [<-zK]at hq
    obtain ⟨x,hx,rfl⟩:=zQ.1 hq;exact zW _ (zS (hok.sub x (by rcases zJ.1 hx with h|h<;>simp [h])))
 rw [<-zK]at hring;have hte:=hok.te e Ap0
 obtain ⟨k,hk⟩:∃k:Nat,e.te=(k:Int):=⟨e.te.toNat,by omega⟩;have hkn:k<ns:=by omega
 have hu1:=hok.use (k:Int);have hsz:=hok.size (e:=e) Ap0
 have hfr1:=hok.room;have hfr2:z.fr<=1000000:=by
  have h1:=hok.free;have h2:=hok.cap;have h3:=Mv hok.sz 0
  omega
 refine Se func92 ntmps92 [0,1] ?_;intro u R;refine Zq<|Zg<|Zm Y<|Zc [_] Y call144 Y V (Wx z hd he (hsb p hp) (hsb n hn) hbf hnx) ?_;rintro _ _ ⟨_,⟨rfl,rfl⟩,rfl⟩;refine Z0<|Zx<|Zq<|Az (n:=9) (0::1::3::7::0::16::48::112::255::[]) 256 Ao8 Ao8 V<|An9 0 V (AP Y)<|An9 1 V (Am Y V)<|An9 2 V (AB (off:=8) AX0 V rfl Al6 Y)<|Cw (D':=15) 3 V rfl V (F6 Wo ((Bd.root ({z with nx:=DC z.nx p (pV n),bf:=DC z.bf n (pV p)}:Bd)))) (BX isAgg175 Y (by exact congrArg some hok.mv)) ?_;refine An9 4 V (AP Y)<|An9 5 V (Am Y V)<|An9 6 V (AB (off:=0) AY0 V rfl AY6 Y)<|Cw (D':=255) 7 V rfl V (F6 Wo ((Bd.node ({z with nx:=DC z.nx p (pV n),bf:=DC z.bf n (pV p)}:Bd) he))) (BX Af1 Y Ap1) ?_;refine Yw 8 511 V (Kq (DT AW6 (D:=fun _=>True)) Ag2 hok.map (fun _ _=>trivial) (trivial) Y Y Wo) ?_;rintro _ _ ⟨rfl,es2,ck2,lm2,hm2,hp2,rfl⟩;refine Ag<|Zx<|Zg<|Zm Y<|Zm Y<|Zc [_,_,_] Y call97 Y rfl (NU ({z with nx:=DC z.nx p (pV n),bf:=DC z.bf n (pV p)}:Bd) hd he (.inr rfl) hok.used hk (k:=k) (x:=FC (L1++e::L2) (k:Int)) (by rw [zY,AH5 hkn];rfl) Ao7 Ao7 (by show _<=z.fr/\z.fr<=_;omega)) ?_;rintro _ _ ⟨_,⟨rfl,su2,hu2,rfl⟩,rfl⟩;refine Z0<|Cj V results92 (by exact ⟨V,({z with nx:=DC z.nx p (pV n),bf:=DC z.bf n (pV p),fr:=z.fr -(-1)*e.sz}:Bd),es2,ck2,lm2,su2,V,V,V,aU hok hring hm2 hp2 hk hu2,V⟩)
theorem iB(hok:DW z ns (L1++e::L2) mb es ck lm su)(hd:z.bl.Nodup):BR Tryz.prog 71 #[.pointer (some ⟨z.r,0,none⟩),.string e.key] [z.S,[(mb,.map es ck)],su] (fun v H'=>v= .bool true/\∃z' es' ck' lm' su',z'.r=z.r/\z'.cap=z.cap/\z'.E=z.E/\DW z' ns (L1++L2) mb es' ck' lm' su'/\H'=[z'.S,[(mb,.map es' ck')],su']):=by
 have hg:=hok.get (e:=e) Ap0;refine Se func71 ntmps71 [0,1] ?_;intro u R;refine Zq<|Zg<|Za Y<|Z0<|Zx<|Zq<|Zg<|Zm Y<|Zm Y<|Xr [_,_] Y call143 Y V (jf z hok.mv hok.map e.key) ?_;rw [hg,AN4];refine Zm Y<|Zd Y V<|Zd Y V<|Za Y<|Za Y<|Z0<|Zx<|Zq<|Zq<|Zg<|Zm Y<|Z0<|Zx<|AR Y (fun hb1=>?_) (fun hb1=>?_)
 ·
  refine Zg<|Zm Y<|Zm Y<|Zc [_,_] Y call92 Y V (U8 hok hd) ?_;rintro _ _ ⟨_,⟨rfl,z',es',ck',lm',su',hr',hc',hE',hok',rfl⟩,rfl⟩;refine Z0<|Zn [6] ?_;refine Zx<|Zq<|Zg<|Zm Y<|Za Y<|Z0<|Zx<|AC<|AL V results71 Y (by exact ⟨V,z',es',ck',lm',su',hr',hc',hE',hok',V⟩)
 cases hb1
theorem rX(hok:DW z ns (L) mb es ck lm su)(hd:z.bl.Nodup)(hk:k<ns):BJ Tryz.prog 77 #[.pointer (some ⟨z.r,0,none⟩),I4 (k:Int)] [z.S,[(mb,.map es ck)],su] (I4 (FC L (k:Int))):=by
 obtain ⟨bu,cu,cur,zu,hus,rfl,hks,hfz,hcur,hset⟩:=VY hok.used (k:=k) (by rw [zY,AH5 hk];rfl);rw [zH,AJ4]at hus;refine Se func77 ntmps77 [0,1] ?_;intro u R;refine Zq<|Zg<|Za Y<|Z0<|Zx<|Zq<|Zq<|Zg<|Zm Y<|Zv (BU Ak2 Y Y)<|Zm Y<|Aj (t:=7) Y V (fun h9=>?_) (fun h9=>?_)
 ·
  cases h9
 refine Zf Y Y<|Yg (Au (n:=0) Y Y)<|Zv (AU Y Y)<|Zm Y<|Ak (t:=11) Y V (fun h8=>?_) (fun h8=>?_)
 ·
  exfalso;omega
 refine Zf Y Y<|Zf Y Y<|Yg (Am Y V)<|Yf 7 AX0 V rfl Al8 Y<|Vk Y (Gc Wo (z.root)) (BX Am4 Y (by exact congrArg some hus)) V rfl ?_;refine Yg (Aa AV0 Y)<|Yg (GK Y Y)<|Zv (AU Y Y)<|Z0<|Zn [0,1,19] ?_;refine Zx<|Aw Y (fun h7=>?_) (fun h7=>?_)
 ·
  exfalso;omega
 refine AJ<|Zx<|Zq<|Zg<|Zm Y<|Zp Y V<|Zh 7 AX0 V rfl Al8 Y<|CW (Gc Wo (z.root)) (BX Am4 Y (by exact congrArg some hus)) V rfl ?_;refine Zm Y<|Bq (Ba AV0 AU1 Y Y Ao7)<|Zl AU2 Y (hv:=by exact hcur) ?_;refine Za Y<|Z0<|Zx<|AC<|AL V results77 Y (by exact ⟨V,V⟩)
theorem aK{nx' bf':Nat->Value}(h:J7 nx bf r l)(h1:∀a∈r::l,nx' a=nx a)(h2:∀a∈r::l,bf' a=bf a):J7 nx' bf' r l:=fun q hq=>by
 have e1:q.1∈r::l:=by rw [<-Ii r l r];exact zS hq
 have e2:q.2∈r::l:=by
  have h9:q.2∈l++[r]:=by rw [<-Jn r l r];exact zS hq
  rcases zJ.1 h9 with h9|h9
  · exact zW _ h9
  · rw [zI.1 h9];exact zX ..
 rw [h1 _ e1,h2 _ e2];exact h q hq
def Bd.more(z:Bd)(e:Bn):Bd:={z with E:=z.E++[e],nx:=DC z.nx e.b (.pointer none),bf:=DC z.bf e.b (.pointer none)}
theorem Bd.more_S(z:Bd)(e:Bn)(hb:e.b∉z.S.map (·.1)):z.S++[(e.b,.cells #[.string e.key,I4 e.te,I4 e.sz,.pointer none,.pointer none] 178 (0,0))]=(z.more e).S:=by
 rw [z.keys]at hb;have hr:z.r≠e.b:=fun h=>hb (h▸zX ..)
 unfold Bd.more Bd.S;simp only [EG _ _ hr,zK,zx,AE9,AF3];congr 2
 · refine AG4 fun x hx=>?_
   have hx2:x.b≠e.b:=fun h=>hb (h▸zW _ (zS hx));unfold Bn.ch;simp only [EG _ _ hx2]
 · unfold Bn.ch
   simp only [HY]
theorem XP(h:DW z ns L mb es ck lm su)(hd:z.bl.Nodup)(e:Bn)(hb:e.b∉z.S.map (·.1)):∃p,p∈(z.more e).bl/\(z.more e).bf z.r=pV p/\e∈(z.more e).E/\
 J7 (DC (DC (z.more e).nx e.b (pV z.r)) p (pV e.b)) (DC (DC (z.more e).bf e.b (pV p)) z.r (pV e.b)) z.r ((L++[e]).map (·.b)):=by
 rw [z.keys]at hb;have hin:∀a∈z.r::L.map (·.b),a∈z.bl:=fun a ha=>by
  rcases za.1 ha with rfl|ha
  · exact zX ..
  · obtain ⟨x,hx,rfl⟩:=zQ.1 ha
    exact zW _ (zS (h.sub x hx))
 have hne:∀a∈z.r::L.map (·.b),a≠e.b:=fun a ha he=>hb (he▸hin a ha);obtain ⟨p,h1,h2,h3⟩:=mH (x:=e.b) (h.nodup hd) (fun hx=>hb (hin _ hx)) (aK (nx':=(z.more e).nx) (bf':=(z.more e).bf) h.ring (fun a ha=>EG _ _ (hne a ha)) (fun a ha=>EG _ _ (hne a ha)));refine ⟨p,?_,h2,zZ _ (zI.2 rfl),by rw [zK];exact h3⟩;have h4:=hin p h1
 unfold Bd.bl Bd.more at*;rcases za.1 h4 with h5|h5
 · rw [h5];exact zX ..
 · refine zW _ ?_
   show p∈(z.E++[e]).map (·.b);rw [zK];exact zR _ h5
theorem X0{l:List Int}{i:Nat}{x:Int}(h:l[i]?=some x):(l.take (i+1)).sum=(l.take i).sum+x:=by
 obtain ⟨hi,rfl⟩:=zF.1 h;rw [AH3,zD hi,AT4];simp
theorem Nq:∀{l:List Int},(∀x∈l,0<=x)->∀i,0<=(l.take i).sum/\(l.take i).sum<=l.sum
 |[],_,i=>by simp
 |x::l,h,0=>by
  have:=Nq (fun y hy=>h y (zW _ hy)) l.length;rw [AA4]at this;have hx:=h x (zX ..)
  simp only [AC9,List.sum_nil,AQ2];omega
 |x::l,h,i+1=>by
  have:=Nq (fun y hy=>h y (zW _ hy)) i;have hx:=h x (zX ..)
  simp only [AN9,AQ2];omega
theorem aT(r:Nat)(cap:Int)(hc:1<=cap/\cap<=1000000)(a:Option Addr)(ns c mb bu:Nat)(hn:ns<=maxLen):DW ⟨r,[],fun _=>pV r,fun _=>pV r,cap,.slice a ns c,I6 bu ns ns,.map (some mb),cap⟩ ns [] mb #[] 0 [] [(bu,.cells (List.replicate ns (Value.int .i64 0)).toArray 3 (0,0))]:=by
 refine ⟨fun e h=>by simp at h,mF V rfl,V,E5 _,fun p=>by simp,AR9,?_,fun e h=>by simp at h,fun e h=>by simp at h,?_,?_,⟨a,c,V⟩,hc⟩
 · rw [show(List.range ns).map (fun k:Nat=>Value.int .i64 (FC [] (k:Int)))=List.replicate ns (Value.int .i64 0) from by
    rw [List.eq_replicate_iff];refine ⟨by simp,fun b hb=>?_⟩;obtain ⟨k,_,rfl⟩:=zQ.1 hb;rfl]
   exact JH _ bu _ ns Ap0 hn
 · show cap=cap -Kk []
   unfold Kk;simp
 · show 0<=cap
   omega
theorem Fs{xs:List Int}{s:List A8}(hS:Row 3 v (xs.map (Value.int .i64)) s)(hn:xs.length<=1000000):BR Tryz.prog 88 #[v] [s] (fun r H'=>∃g c s2,r= .slice g xs.length c/\Row 3 r (xs.map (Value.int .i64)) s2/\H'=[s2,s]):=by
 have hml:=mL;obtain ⟨pv,cv,hv⟩:=hS.form;rw [zH]at hv;subst hv;refine Se func88 ntmps88 [0] ?_;intro u R;refine Zq<|Zg<|Za Y<|Z0<|Zx<|Zq<|Zq<|Zg<|Zm Y<|Zv (DX AV0 Y Y)<|Z0<|Zx<|AR Y (fun hp=>?_) (fun hp=>?_)
 ·
  have hp0:pv=none:=by cases pv with
   |none=>rfl
   |some x=>cases hp
  subst hp0;have h0:xs=[]:=by
   rcases hS with⟨_,h,_⟩|⟨g,cap,cur,z,h,_⟩
   · simpa using h
   · cases h
  subst h0;refine Zq<|BV<|Zg<|Za Y<|Z0<|Zx<|AC<|Zt<|AL V results88 Y (by exact ⟨none,0,[],V,G5 _,V⟩)
 refine AJ<|Zx<|Zq<|Zg<|Ze (Dw AV0 AU1) ?_;rintro _ _ ⟨g1,rfl,rfl⟩;refine Zm Y<|Ze (GN (by_:=8) AV0 (rfl:Tryz.prog.info? 3=some Tryz.t3) rfl rfl rfl rfl Y ((JH 3 g1 [] 0 rfl Ao9)) Y (hS) Wo Wo (by exact fun u hu=>by obtain ⟨x,_,rfl⟩:=zQ.1 hu;rfl) Ap8 Ap8) ?_;rintro _ _ ⟨sa1,hra1,rfl⟩;rw [AD8]at hra1;have hra9:=hra1
 obtain ⟨ga1,ca1,rfl⟩:=hra1.form;refine Za Y<|Z0<|Zx<|AC<|AL V results88 Y (by exact ⟨ga1,ca1,sa1,by simp,hra9,V⟩)
theorem il{sh:List Int}{ss:List A8}(hS:Row 3 v (sh.map (Value.int .i64)) ss)(cap:Int)(hc:1<=cap/\cap<=1000000)(hl:1<=sh.length/\sh.length<=8)(h0:∀x∈sh,0<=x)(hsum:sh.sum<=cap):BR Tryz.prog 42 #[I4 cap,v] [ss] (fun r H'=>∃z mb su,r= .tuple #[.pointer (some ⟨z.r,0,none⟩),I4 0]/\z.cap=cap/\DW z sh.length [] mb #[] 0 [] su/\H'=[z.S,[(mb,.map #[] 0)],su,ss]):=by
 have hml:=mL;obtain ⟨pv,cv,hv⟩:=hS.form;rw [zH]at hv;subst hv;refine Se func42 ntmps42 [0,1] ?_;intro u R;refine Zq<|Zg<|Za Y<|Za Y<|Z0<|Zx<|Zq<|Zq<|Zg<|Zm Y<|Zv (Dq Y Y)<|Zm Y<|Ak (t:=12) Y V (fun g1=>?_) (fun g1=>?_)
 ·
  exfalso;omega
 refine Zf Y Y<|Yg (FI Y Y)<|Zv (AU Y Y)<|Zm Y<|Ak (t:=16) Y V (fun g2=>?_) (fun g2=>?_)
 ·
  exfalso;omega
 refine Zf Y Y<|Yg (Aa AV0 Y)<|Yg (Au (n:=1) Y Y)<|Zv (AU Y Y)<|Zm Y<|Ak (t:=21) Y V (fun g3=>?_) (fun g3=>?_)
 ·
  exfalso;omega
 refine Zf Y Y<|Yg (Aa AV0 Y)<|Yg (Df (n:=8) Y Y)<|Zv (AU Y Y)<|Z0<|Zn [0,1,25] ?_;refine Zx<|Aw Y (fun g4=>?_) (fun g4=>?_)
 ·
  exfalso;omega
 refine AJ<|Zx<|Zq<|Zg<|Zm Y<|Za Y<|Z0<|Zx<|Zq<|Zq<|Zg<|Zm Y<|Zv (Aa AV0 Y)<|Zm Y<|Z0<|Zx<|AO<|Zb [6,29,0,1,27,28] ?_;refine BI (e0:=[(6,_),(29,_)]) (fun m e H=>∃(i:Nat),m=sh.length -i/\(i<=sh.length)/\e=[(6,I4 (cap -(sh.take i).sum)),(29,I4 (i:Int))]/\H=[]) (by exact ⟨0,V,zT _,by simp,V⟩) Wp ?_;rintro _ _ _ ⟨i,rfl,hi,rfl,rfl⟩;refine Zq<|Zg<|Zv (Au Y Y)<|Z0<|Zx<|Zq<|Aw Y (fun hlt=>?_) (fun hlt=>?_)
 ·
  obtain ⟨n,hn⟩:∃n,sh[i]?=some n:=⟨_,zD hlt⟩;obtain ⟨bs,cs,cur,zs,hv9,rfl,hks,hfz,hcur,_⟩:=VY hS (k:=i) (y0:=I4 n) (by rw [zY,hn];rfl);injection hv9 with e1 e2 e3
  subst e1 e3;have hn0:=h0 n (zP hn)
  have hp1:=Nq h0 i;have hp2:=Nq h0 (i+1)
  rw [X0 hn]at hp2;refine AJ<|Zx<|Zq<|AO<|Zq<|Zg<|Bq (Ba AV0 AU1 Y Y Ao7)<|Zl AU2 Y (hv:=by exact hcur) ?_;refine Za Y<|Z0<|Zx<|Zq<|Zq<|Zg<|Zm Y<|Zv (Dq Y Y)<|Zm Y<|Ak (t:=35) Y V (fun g5=>?_) (fun g5=>?_)
  ·
   exfalso;omega
  refine Zf Y Y<|Zf Y Y<|Yg (FI Y Y)<|Zv (AU Y Y)<|Z0<|Zx<|Aw Y (fun g6=>?_) (fun g6=>?_)
  ·
   exfalso;omega
  refine AJ<|Zx<|Zg<|Zm Y<|Zm Y ?_
  (refine Bq (Hz Y Y (IntWalk.i64_in _ ?_)) ?_;(focus (omega)))
  refine Za Y<|Z0<|Zn [0,1,6,27,28,29] ?_;refine A9<|Zx<|Zg<|Ya (n:=1) Y Y<|Zm Y<|Z0<|Zn [6,29,0,1,27,28] ?_;refine Ad (e':=[(6,_),(29,_)]) (by exact ⟨i+1,rfl,by omega,by rw [X0 hn,Int.sub_sub],rfl⟩)
 refine BG<|Zt<|Zt<|AX<|Zx<|Zb [0,1] ?_;refine Ea (e0:=[(0,_),(1,_)]) (H0:=[]) (fun e H=>∃(r mb bu:Nat) (gc:Option Addr) (cc:Nat),(True)/\e=[(9,I5 r)]/\H=[[(r,.cells #[.string ⟨#[]⟩,I4 0,I4 0,.pointer none,.pointer none,I4 cap,.slice gc sh.length cc,I6 bu sh.length sh.length,.map (some mb),I4 cap] 182 (0,0))],[(mb,.map #[] 0)],[(bu,.cells (List.replicate sh.length (Value.int .i64 0)).toArray 3 (0,0))]]) Wp ?hx_3 ?hy_3
 case hx_3=>
  refine Az (n:=11) (0::0::2::0::8::24::0::0::255::511::1023::[]) 612 Ao8 Ao8 V<|An9 0 V (AP Y)<|An9 1 V (AP Y)<|An9 3 V (AP Y)<|An9 4 V (Aa AV0 Y)<|An9 7 V (AP Y)<|Zz (l:=[2,5,6])<|Ao5 [] [] V rfl (Zw [_] Y call88 Y V (Fs hS Ao7)) ?hk_4 Bp ?hl_4
  case hk_4=>
   rintro _ _ ⟨_,⟨gc,cc,sc,rfl,hsc,rfl⟩,rfl⟩;refine ⟨AV,?_⟩;refine Zz (l:=[5,6])<|Ao5 [] [] V rfl (GA (by_:=8) AV0 (V:Tryz.prog.info? 3=some Tryz.t3) V rfl V rfl Y Y ?_ ?_ ?_) ?hk_5 (fun _ _ h=>h.elim) ?hl_5
   (focus (omega))
   (focus (omega))
   (focus (omega))
   case hk_5=>
    rintro _ _ ⟨bu,rfl,rfl⟩;refine ⟨AV,?_⟩;refine Yw 6 255 V (D6) ?_;rintro _ _ ⟨mb,rfl,rfl⟩;refine An9 8 V (BL (vs:=[(1,I4 cap),(2,.slice gc sh.length cc),(3,I6 bu sh.length sh.length),(4,.map (some mb)),(5,I4 cap)]) (cs:=#[.string ⟨#[]⟩,I4 0,I4 0,.pointer none,.pointer none,I4 cap,.slice gc sh.length cc,I6 bu sh.length sh.length,.map (some mb),I4 cap]) Y (AY (pl:=#[(0,5),(5,1),(6,1),(7,1),(8,1),(9,1)]) Ah1 AX0 (fun _=>by kernel_rfl) Ao8))<|Yw 9 1023 V (EX Y (cs:=#[.string ⟨#[]⟩,I4 0,I4 0,.pointer none,.pointer none,I4 cap,.slice gc sh.length cc,I6 bu sh.length sh.length,.map (some mb),I4 cap]) Ao8) ?_;rintro _ _ ⟨r,rfl,rfl⟩;refine An9 10 V (Aq Y)<|Ag<|Zn [9] ?_;refine Bi (e':=[(9,_)]) (by exact ⟨r,mb,bu,gc,cc,trivial,V,V⟩)
   refine Ao5 [] [] V rfl (D6) ?hk_9 (fun _ _ h=>h.elim) ?hl_9
   case hk_9=>
    rintro _ _ ⟨mb,rfl,rfl⟩;refine ⟨AV,?_⟩;refine Zz (l:=[5])<|Ao5 [] [] V rfl (GA (by_:=8) AV0 (V:Tryz.prog.info? 3=some Tryz.t3) V rfl V rfl Y Y ?_ ?_ ?_) ?hk_10 (fun _ _ h=>h.elim) ?hl_10
    (focus (omega))
    (focus (omega))
    (focus (omega))
    case hk_10=>
     rintro _ _ ⟨bu,rfl,rfl⟩;refine ⟨AV,?_⟩;refine An9 8 V (BL (vs:=[(1,I4 cap),(2,.slice gc sh.length cc),(3,I6 bu sh.length sh.length),(4,.map (some mb)),(5,I4 cap)]) (cs:=#[.string ⟨#[]⟩,I4 0,I4 0,.pointer none,.pointer none,I4 cap,.slice gc sh.length cc,I6 bu sh.length sh.length,.map (some mb),I4 cap]) Y (AY (pl:=#[(0,5),(5,1),(6,1),(7,1),(8,1),(9,1)]) Ah1 AX0 (fun _=>by kernel_rfl) Ao8))<|Yw 9 1023 V (EX Y (cs:=#[.string ⟨#[]⟩,I4 0,I4 0,.pointer none,.pointer none,I4 cap,.slice gc sh.length cc,I6 bu sh.length sh.length,.map (some mb),I4 cap]) Ao8) ?_;rintro _ _ ⟨r,rfl,rfl⟩;refine An9 10 V (Aq Y)<|Ag<|Zn [9] ?_;refine Bi (e':=[(9,_)]) (by exact ⟨r,mb,bu,gc,cc,trivial,V,V⟩)
    exact Ae
   exact Ae
  refine Ao5 [] [] V rfl (GA (by_:=8) AV0 (V:Tryz.prog.info? 3=some Tryz.t3) V rfl V rfl Y Y ?_ ?_ ?_) ?hk_13 (fun _ _ h=>h.elim) ?hl_13
  (focus (omega))
  (focus (omega))
  (focus (omega))
  case hk_13=>
   rintro _ _ ⟨bu,rfl,rfl⟩;refine ⟨AV,?_⟩;refine Zz (l:=[2,6])<|Ao5 [] [] V rfl (Zw [_] Y call88 Y V (Fs hS Ao7)) ?hk_14 Bp ?hl_14
   case hk_14=>
    rintro _ _ ⟨_,⟨gc,cc,sc,rfl,hsc,rfl⟩,rfl⟩;refine ⟨AV,?_⟩;refine Yw 6 255 V (D6) ?_;rintro _ _ ⟨mb,rfl,rfl⟩;refine An9 8 V (BL (vs:=[(1,I4 cap),(2,.slice gc sh.length cc),(3,I6 bu sh.length sh.length),(4,.map (some mb)),(5,I4 cap)]) (cs:=#[.string ⟨#[]⟩,I4 0,I4 0,.pointer none,.pointer none,I4 cap,.slice gc sh.length cc,I6 bu sh.length sh.length,.map (some mb),I4 cap]) Y (AY (pl:=#[(0,5),(5,1),(6,1),(7,1),(8,1),(9,1)]) Ah1 AX0 (fun _=>by kernel_rfl) Ao8))<|Yw 9 1023 V (EX Y (cs:=#[.string ⟨#[]⟩,I4 0,I4 0,.pointer none,.pointer none,I4 cap,.slice gc sh.length cc,I6 bu sh.length sh.length,.map (some mb),I4 cap]) Ao8) ?_;rintro _ _ ⟨r,rfl,rfl⟩;refine An9 10 V (Aq Y)<|Ag<|Zn [9] ?_;refine Bi (e':=[(9,_)]) (by exact ⟨r,mb,bu,gc,cc,trivial,V,V⟩)
   refine Ao5 [] [] V rfl (D6) ?hk_18 (fun _ _ h=>h.elim) ?hl_18
   case hk_18=>
    rintro _ _ ⟨mb,rfl,rfl⟩;refine ⟨AV,?_⟩;refine Zz (l:=[2])<|Ao5 [] [] V rfl (Zw [_] Y call88 Y V (Fs hS Ao7)) ?hk_19 Bp ?hl_19
    case hk_19=>
     rintro _ _ ⟨_,⟨gc,cc,sc,rfl,hsc,rfl⟩,rfl⟩;refine ⟨AV,?_⟩;refine An9 8 V (BL (vs:=[(1,I4 cap),(2,.slice gc sh.length cc),(3,I6 bu sh.length sh.length),(4,.map (some mb)),(5,I4 cap)]) (cs:=#[.string ⟨#[]⟩,I4 0,I4 0,.pointer none,.pointer none,I4 cap,.slice gc sh.length cc,I6 bu sh.length sh.length,.map (some mb),I4 cap]) Y (AY (pl:=#[(0,5),(5,1),(6,1),(7,1),(8,1),(9,1)]) Ah1 AX0 (fun _=>by kernel_rfl) Ao8))<|Yw 9 1023 V (EX Y (cs:=#[.string ⟨#[]⟩,I4 0,I4 0,.pointer none,.pointer none,I4 cap,.slice gc sh.length cc,I6 bu sh.length sh.length,.map (some mb),I4 cap]) Ao8) ?_;rintro _ _ ⟨r,rfl,rfl⟩;refine An9 10 V (Aq Y)<|Ag<|Zn [9] ?_;refine Bi (e':=[(9,_)]) (by exact ⟨r,mb,bu,gc,cc,trivial,V,V⟩)
    exact Ae
   exact Ae
  refine Ao5 [] [] V rfl (D6) ?hk_22 (fun _ _ h=>h.elim) ?hl_22
  case hk_22=>
   rintro _ _ ⟨mb,rfl,rfl⟩;refine ⟨AV,?_⟩;refine Zz (l:=[2,5])<|Ao5 [] [] V rfl (Zw [_] Y call88 Y V (Fs hS Ao7)) ?hk_23 Bp ?hl_23
   case hk_23=>
    rintro _ _ ⟨_,⟨gc,cc,sc,rfl,hsc,rfl⟩,rfl⟩;refine ⟨AV,?_⟩;refine Zz (l:=[5])<|Ao5 [] [] V rfl (GA (by_:=8) AV0 (V:Tryz.prog.info? 3=some Tryz.t3) V rfl V rfl Y Y ?_ ?_ ?_) ?hk_24 (fun _ _ h=>h.elim) ?hl_24
    (focus (omega))
    (focus (omega))
    (focus (omega))
    case hk_24=>
     rintro _ _ ⟨bu,rfl,rfl⟩;refine ⟨AV,?_⟩;refine An9 8 V (BL (vs:=[(1,I4 cap),(2,.slice gc sh.length cc),(3,I6 bu sh.length sh.length),(4,.map (some mb)),(5,I4 cap)]) (cs:=#[.string ⟨#[]⟩,I4 0,I4 0,.pointer none,.pointer none,I4 cap,.slice gc sh.length cc,I6 bu sh.length sh.length,.map (some mb),I4 cap]) Y (AY (pl:=#[(0,5),(5,1),(6,1),(7,1),(8,1),(9,1)]) Ah1 AX0 (fun _=>by kernel_rfl) Ao8))<|Yw 9 1023 V (EX Y (cs:=#[.string ⟨#[]⟩,I4 0,I4 0,.pointer none,.pointer none,I4 cap,.slice gc sh.length cc,I6 bu sh.length sh.length,.map (some mb),I4 cap]) Ao8) ?_;rintro _ _ ⟨r,rfl,rfl⟩;refine An9 10 V (Aq Y)<|Ag<|Zn [9] ?_;refine Bi (e':=[(9,_)]) (by exact ⟨r,mb,bu,gc,cc,trivial,V,V⟩)
    exact Ae
   refine Ao5 [] [] V rfl (GA (by_:=8) AV0 (V:Tryz.prog.info? 3=some Tryz.t3) V rfl V rfl Y Y ?_ ?_ ?_) ?hk_27 (fun _ _ h=>h.elim) ?hl_27
   (focus (omega))
   (focus (omega))
   (focus (omega))
   case hk_27=>
    rintro _ _ ⟨bu,rfl,rfl⟩;refine ⟨AV,?_⟩;refine Zz (l:=[2])<|Ao5 [] [] V rfl (Zw [_] Y call88 Y V (Fs hS Ao7)) ?hk_28 Bp ?hl_28
    case hk_28=>
     rintro _ _ ⟨_,⟨gc,cc,sc,rfl,hsc,rfl⟩,rfl⟩;refine ⟨AV,?_⟩;refine An9 8 V (BL (vs:=[(1,I4 cap),(2,.slice gc sh.length cc),(3,I6 bu sh.length sh.length),(4,.map (some mb)),(5,I4 cap)]) (cs:=#[.string ⟨#[]⟩,I4 0,I4 0,.pointer none,.pointer none,I4 cap,.slice gc sh.length cc,I6 bu sh.length sh.length,.map (some mb),I4 cap]) Y (AY (pl:=#[(0,5),(5,1),(6,1),(7,1),(8,1),(9,1)]) Ah1 AX0 (fun _=>by kernel_rfl) Ao8))<|Yw 9 1023 V (EX Y (cs:=#[.string ⟨#[]⟩,I4 0,I4 0,.pointer none,.pointer none,I4 cap,.slice gc sh.length cc,I6 bu sh.length sh.length,.map (some mb),I4 cap]) Ao8) ?_;rintro _ _ ⟨r,rfl,rfl⟩;refine An9 10 V (Aq Y)<|Ag<|Zn [9] ?_;refine Bi (e':=[(9,_)]) (by exact ⟨r,mb,bu,gc,cc,trivial,V,V⟩)
    exact Ae
   exact Ae
  exact Ae
 rintro _ _ ⟨r,mb,bu,gc,cc,_,rfl,rfl⟩;refine Zq<|Zg<|Zm Y<|Zp Y V<|Zh 0 AX0 V rfl sizeOf180 Y<|Zc [_] Y call89 Y V (dV r 182 (0,0) _ _ _ _ _ _ _ _ _ _) ?_;rintro _ _ ⟨_,⟨rfl,rfl⟩,rfl⟩;refine Z0<|Zx<|Zq<|Zg<|Zm Y<|Za Y<|Za Y<|Z0<|Zx<|AC<|Ci V results42 Y Y (by exact ⟨⟨r,[],fun _=>pV r,fun _=>pV r,cap,.slice gc sh.length cc,I6 bu sh.length sh.length,.map (some mb),cap⟩,mb,_,V,V,aT r cap hc gc sh.length cc mb bu Ao7,V⟩)
theorem sO(hok:DW z ns L mb es ck lm su)(hd:z.bl.Nodup)(hk:k<ns){sz:Int}(hs1:1<=sz)(hs2:sz<=z.fr){K:ByteArray}(hK:∀e∈L,e.key≠K):BR Tryz.prog 45 #[.pointer (some ⟨z.r,0,none⟩),I4 (k:Int),.string K,I4 sz] [z.S,[(mb,.map es ck)],su] (fun v H'=>v= .tuple #[.slice none 0 0,.bool true]/\∃z' es' ck' lm' su' b,z'.r=z.r/\z'.cap=z.cap/\DW z' ns (L++[⟨b,K,(k:Int),sz⟩]) mb es' ck' lm' su'/\H'=[z'.S,[(mb,.map es' ck')],su']):=by
 obtain ⟨sha,shc,hsh⟩:=hok.sh;have hg:=hok.none hK
 refine Cz func45 V ntmps45 V ?_;intro u R;refine Zb [0,1,2,3] ?_;refine Zq<|Zg<|Ze (Bx #[_]) ?_;rintro _ _ ⟨bp,rfl,rfl⟩;refine Za Y<|Za Y<|Z0<|Zx<|TI ?_;refine Zq<|Zq<|Zg<|Zl Ab9 Y ?_;refine Zv (BU Ak2 Y Y)<|Zm Y<|Aj (t:=20) Y V (fun gd=>?_) (fun gd=>?_)
 ·
  cases gd
 refine Zf Y Y<|Yg (Au (n:=0) Y Y)<|Zv (AU Y Y)<|Zm Y<|Ak (t:=24) Y V (fun g2=>?_) (fun g2=>?_)
 ·
  exfalso;omega
 refine Zf Y Y<|Yl Ab9 Y ?_;refine Yg (Am Y V)<|Yf 6 AX0 V rfl Al8 Y<|Vk Y (Gc Wo (z.root)) (BX Am4 Y (by exact congrArg some hsh)) V rfl ?_;refine Yg (Aa AV0 Y)<|Yg (GK Y Y)<|Zv (AU Y Y)<|Zm Y<|Ak (t:=33) Y V (fun g3=>?_) (fun g3=>?_)
 ·
  exfalso;omega
 refine Zf Y Y<|Yg (Dq Y Y)<|Zv (AU Y Y)<|Z0<|Zn [1,2,3,4,36] ?_;refine Zx<|Aw Y (fun g4=>?_) (fun g4=>?_)
 ·
  exfalso;omega
 refine AJ<|Zx<|Zq<|Zg<|Za Y<|Z0<|Zx<|Zb [10,1,2,3,4] ?_;refine Ea (e0:=[(10,_)]) (H0:=[z.S,[(mb,.map es ck)],su]) (fun e H=>∃(z1:Bd) (es1:Array MapEntry) (ck1:Nat) (lm1:List (ByteArray×Value)) (su1:List A8) (tv:Value),(((z1.r=z.r/\z1.cap=z.cap)/\sz<=z1.fr/\∀x∈L,x.key≠K)/\DW z1 ns (L) mb es1 ck1 lm1 su1)/\e=[(10,tv)]/\H=[z1.S,[(mb,.map es1 ck1)],su1]) Wp ?hx_1 ?hy_1
 case hx_1=>
  refine Zq<|Zg<|Zl Ab9 Y ?_;refine Zp Y V<|Zh 8 AX0 V rfl Al6 Y<|CW (Gc Wo (z.root)) (BX isAgg175 Y (by exact congrArg some hok.mv)) V rfl ?_;refine Zm Y<|Zo Wh (De (DT AW6 (D:=fun _=>True)) Ag2 Al7 hok.map (fun _ _=>trivial) (trivial) (⟨by rw [hg];first|done|rfl,by rw [hg];first|done|rfl⟩) Y Y) ?_;refine Zm Y<|Zd Y V<|Zd Y V<|Za Y<|Za Y<|Z0<|Zx<|Zq<|Zg<|Zm Y<|Z0<|Zx<|AR Y (fun g7=>?_) (fun g7=>?_)
  ·
   cases g7
  refine AJ<|Zn [10,1,2,3,4] ?_;refine Bi (e':=[(10,_)]) (by exact ⟨z,es,ck,lm,su,_,⟨⟨⟨V,V⟩,hs2,hK⟩,hok⟩,V,V⟩)
 rintro _ _ ⟨z1,es1,ck1,lm1,su1,tv,⟨⟨⟨hr1,hcp1⟩,hfit,hfree⟩,hok1⟩,rfl,rfl⟩;rw [<-hr1,<-hcp1];have hu1:=hok1.use (k:Int)
 have hfr1:z1.fr<=1000000:=by have h1:=hok1.free;have h2:=hok1.cap;have h3:=Mv hok1.sz 0;omega
 refine Fv (s:=z1.S) Wo (fun hd1=>?_);rw [Bd.keys]at hd1;refine Zq<|Zg<|Za Y<|Z0<|Zx<|Zq<|TK<|Zx<|Zq<|AO<|Zb [10,13,1,2,3,4] ?_;refine BI (e0:=[(10,_),(13,_)]) (fun m e H=>m=0/\(True)/\e=[(10,tv),(13,.slice none 0 0)]/\H=[]) (by exact ⟨V,trivial,V,V⟩) Wp ?_;rintro _ _ _ ⟨rfl,_,rfl,rfl⟩;refine Zq<|Zq<|Zg<|Zl Ab9 Y ?_;refine Zp Y V<|Zh 9 AX0 V rfl AU1 Y<|CW (Gc Wo (z1.root)) (BX AU2 Y Ap1) V rfl ?_;refine Zm Y<|Zv (Dq Y Y)<|Z0<|Zx<|Aw Y (fun g5=>?_) (fun g5=>?_)
 ·
  exfalso;omega
 refine BG<|Zt<|Zt<|AX<|Zx<|Zq<|Zq<|Zg<|Zl Ab9 Y ?_;refine Zp Y V<|Zh 9 AX0 V rfl AU1 Y<|CW (Gc Wo (z1.root)) (BX AU2 Y Ap1) V rfl ?_;refine Zm Y<|Zv (Dq Y Y)<|Z0<|Zx<|Aw Y (fun g6=>?_) (fun g6=>?_)
 ·
  exfalso;omega
 refine AJ<|Zx<|Zq<|Zg<|Zm Y<|Zm Y<|Zm Y<|Zv (BL (vs:=[(0,_),(1,_),(2,_)]) (cs:=#[_,_,_,_,_]) Y (AY (pl:=#[(0,1),(1,1),(2,1),(3,1),(4,1)]) zeroValue178 AY0 (fun _=>by kernel_rfl) V))<|Ze (EX Y (cs:=#[.string K,I4 (k:Int),I4 sz,.pointer none,.pointer none]) Ao8) ?_;rintro _ _ ⟨bn,rfl,rfl⟩;refine Za Y<|Z0<|Zn [2,4,13,17] ?_;refine Zx<|Zq<|qN (b:=bn) (s:=z1.S) Wo Wo (fun hbn=>?_);refine C8 (s1:=z1.S) (s2:=[(bn,_)]) Wo Wo ?_;rw [show z1.S++[(bn,Obj.cells #[.string K,I4 (k:Int),I4 sz,.pointer none,.pointer none] 178 (0,0))]=(z1.more (⟨bn,K,(k:Int),sz⟩:Bn)).S from Bd.more_S z1 (⟨bn,K,(k:Int),sz⟩:Bn) hbn];refine Fv (s:=(z1.more (⟨bn,K,(k:Int),sz⟩:Bn)).S) Wo (fun hd2=>?_);rw [Bd.keys]at hd2;obtain ⟨p2,hp2,hbf2,he9,hring2⟩:=XP hok1 hd1 (⟨bn,K,(k:Int),sz⟩:Bn) hbn;refine Zg<|Zm Y<|Zl Ab9 Y ?_;refine Zp Y V<|Zh 0 AX0 V rfl sizeOf180 Y<|Zh 0 Ag1 V rfl Al5 Y<|Zc [_,_] Y call96 Y V (QC (z1.more (⟨bn,K,(k:Int),sz⟩:Bn)) hd2 he9 hp2 hbf2) ?_;rintro _ _ ⟨_,⟨rfl,rfl⟩,rfl⟩;refine Z0<|Zx<|Zq<|Zg<|Zl Ab9 Y ?_;refine Zp Y V<|Zh 8 AX0 V rfl Al6 Y<|CW (Gc Wo ((Bd.root ({(z1.more (⟨bn,K,(k:Int),sz⟩:Bn))with nx:=DC (DC (z1.more (⟨bn,K,(k:Int),sz⟩:Bn)).nx (⟨bn,K,(k:Int),sz⟩:Bn).b (pV (z1.more (⟨bn,K,(k:Int),sz⟩:Bn)).r)) p2 (pV (⟨bn,K,(k:Int),sz⟩:Bn).b),bf:=DC (DC (z1.more (⟨bn,K,(k:Int),sz⟩:Bn)).bf (⟨bn,K,(k:Int),sz⟩:Bn).b (pV p2)) (z1.more (⟨bn,K,(k:Int),sz⟩:Bn)).r (pV (⟨bn,K,(k:Int),sz⟩:Bn).b)}:Bd)))) (BX isAgg175 Y (by exact congrArg some hok1.mv)) V rfl ?_;refine Zm Y<|Zm Y<|Ze (Et (DT AW6 (D:=fun _=>True)) Ag2 hok1.map (fun _ _=>trivial) (trivial) Y Y Y Wo) ?_;rintro _ _ ⟨rfl,es9,ck9,lm9,hm9,hp9,rfl⟩;refine Z0<|Zn [4,13,17] ?_;refine Zx<|Zq<|Zg<|Zl Ab9 Y ?_
 refine Zm Y<|Zc [_,_,_] Y call97 Y rfl (NU ({(z1.more (⟨bn,K,(k:Int),sz⟩:Bn))with nx:=DC (DC (z1.more (⟨bn,K,(k:Int),sz⟩:Bn)).nx (⟨bn,K,(k:Int),sz⟩:Bn).b (pV (z1.more (⟨bn,K,(k:Int),sz⟩:Bn)).r)) p2 (pV (⟨bn,K,(k:Int),sz⟩:Bn).b),bf:=DC (DC (z1.more (⟨bn,K,(k:Int),sz⟩:Bn)).bf (⟨bn,K,(k:Int),sz⟩:Bn).b (pV p2)) (z1.more (⟨bn,K,(k:Int),sz⟩:Bn)).r (pV (⟨bn,K,(k:Int),sz⟩:Bn).b)}:Bd) hd2 (e:=(⟨bn,K,(k:Int),sz⟩:Bn)) he9 (.inl rfl) hok1.used (k:=k) rfl (x:=FC (L) (k:Int)) (by rw [zY,AH5 hk];rfl) Ao7 (by show 0<=sz/\sz<=_;omega) (by show _<=z1.fr/\z1.fr<=_;omega)) ?_;rintro _ _ ⟨_,⟨rfl,su9,hu9,rfl⟩,rfl⟩;refine Z0<|Zx<|Zq<|Zg<|Zm Y<|Za Y<|Za Y<|Z0<|Zx<|AC<|KI ?_;refine OI V (mI results45 Y Y) (by exact ⟨V,({({(z1.more (⟨bn,K,(k:Int),sz⟩:Bn))with nx:=DC (DC (z1.more (⟨bn,K,(k:Int),sz⟩:Bn)).nx (⟨bn,K,(k:Int),sz⟩:Bn).b (pV (z1.more (⟨bn,K,(k:Int),sz⟩:Bn)).r)) p2 (pV (⟨bn,K,(k:Int),sz⟩:Bn).b),bf:=DC (DC (z1.more (⟨bn,K,(k:Int),sz⟩:Bn)).bf (⟨bn,K,(k:Int),sz⟩:Bn).b (pV p2)) (z1.more (⟨bn,K,(k:Int),sz⟩:Bn)).r (pV (⟨bn,K,(k:Int),sz⟩:Bn).b)}:Bd)with fr:=z1.fr -1*sz}:Bd),es9,ck9,lm9,su9,bn,V,V,Rh hok1 hring2 hfree hm9 hp9 V hk ⟨hs1,hfit⟩ hu9,V⟩)
theorem sN{y:Bn}(hok:DW z ns (L1++y::L2) mb es ck lm su)(hd:z.bl.Nodup)(hk:k<ns){sz:Int}(hs1:1<=sz)(hs2:sz<=z.fr+y.sz):BR Tryz.prog 45 #[.pointer (some ⟨z.r,0,none⟩),I4 (k:Int),.string y.key,I4 sz] [z.S,[(mb,.map es ck)],su] (fun v H'=>v= .tuple #[.slice none 0 0,.bool true]/\∃z' es' ck' lm' su' b,z'.r=z.r/\z'.cap=z.cap/\DW z' ns (L1++L2++[⟨b,y.key,(k:Int),sz⟩]) mb es' ck' lm' su'/\H'=[z'.S,[(mb,.map es' ck')],su']):=by
 obtain ⟨sha,shc,hsh⟩:=hok.sh;have hg:=hok.get (e:=y) Ap0
 have hne:∀x∈L1++L2,x.key≠y.key:=fun x hx=>by
  have hks:=hok.keys;rw [zK,zx,AA5,AB9]at hks;rcases zJ.1 hx with hx|hx
  · exact hks.2.2 _ (zS hx) _ (zX ..)
  · exact fun hh=>hks.2.1.1 (hh▸zS hx)
 refine Cz func45 V ntmps45 V ?_;intro u R;refine Zb [0,1,2,3] ?_;refine Zq<|Zg<|Ze (Bx #[_]) ?_;rintro _ _ ⟨bp,rfl,rfl⟩;refine Za Y<|Za Y<|Z0<|Zx<|TI ?_;refine Zq<|Zq<|Zg<|Zl Ab9 Y ?_;refine Zv (BU Ak2 Y Y)<|Zm Y<|Aj (t:=20) Y V (fun gd=>?_) (fun gd=>?_)
 ·
  cases gd
 refine Zf Y Y<|Yg (Au (n:=0) Y Y)<|Zv (AU Y Y)<|Zm Y<|Ak (t:=24) Y V (fun g2=>?_) (fun g2=>?_)
 ·
  exfalso;omega
 refine Zf Y Y<|Yl Ab9 Y ?_;refine Yg (Am Y V)<|Yf 6 AX0 V rfl Al8 Y<|Vk Y (Gc Wo (z.root)) (BX Am4 Y (by exact congrArg some hsh)) V rfl ?_;refine Yg (Aa AV0 Y)<|Yg (GK Y Y)<|Zv (AU Y Y)<|Zm Y<|Ak (t:=33) Y V (fun g3=>?_) (fun g3=>?_)
 ·
  exfalso;omega
 refine Zf Y Y<|Yg (Dq Y Y)<|Zv (AU Y Y)<|Z0<|Zn [1,2,3,4,36] ?_;refine Zx<|Aw Y (fun g4=>?_) (fun g4=>?_)
 ·
  exfalso;omega
 refine AJ<|Zx<|Zq<|Zg<|Za Y<|Z0<|Zx<|Zb [10,1,2,3,4] ?_;refine Ea (e0:=[(10,_)]) (H0:=[z.S,[(mb,.map es ck)],su]) (fun e H=>∃(z1:Bd) (es1:Array MapEntry) (ck1:Nat) (lm1:List (ByteArray×Value)) (su1:List A8) (tv:Value),(((z1.r=z.r/\z1.cap=z.cap)/\sz<=z1.fr/\∀x∈L1++L2,x.key≠y.key)/\DW z1 ns (L1++L2) mb es1 ck1 lm1 su1)/\e=[(10,tv)]/\H=[z1.S,[(mb,.map es1 ck1)],su1]) Wp ?hx_1 ?hy_1
 case hx_1=>
  refine Zq<|Zg<|Zl Ab9 Y ?_;refine Zp Y V<|Zh 8 AX0 V rfl Al6 Y<|CW (Gc Wo (z.root)) (BX isAgg175 Y (by exact congrArg some hok.mv)) V rfl ?_;refine Zm Y<|Zo Wh (De (DT AW6 (D:=fun _=>True)) Ag2 Al7 hok.map (fun _ _=>trivial) (trivial) (⟨by rw [hg];first|done|rfl,by rw [hg];first|done|rfl⟩) Y Y) ?_;refine Zm Y<|Zd Y V<|Zd Y V<|Za Y<|Za Y<|Z0<|Zx<|Zq<|Zg<|Zm Y<|Z0<|Zx<|AR Y (fun g7=>?_) (fun g7=>?_)
  ·
   refine Zq<|Zg<|Zl Ab9 Y ?_;refine Zm Y<|Zc [_,_] Y call92 Y V (U8 hok hd) ?_;rintro _ _ ⟨_,⟨rfl,z9,es1,ck1,lm1,su1,hr9,hc9,hE9,hok9,rfl⟩,rfl⟩;refine Z0<|Zn [1,2,3,4,10,11] ?_;refine Zx<|BV<|Zg<|Zm Y<|Zm Y<|Ze (Af (vs:=[_]) (cs:=[_]) underlying191 AZ9 Al7 Y V rfl V rfl V) ?_;rintro _ _ ⟨b2,rfl,rfl⟩;refine Ze (EF (by_:=8) (news:=[_]) underlying191 (V:Tryz.prog.info? 176=some Tryz.t176) V rfl V rfl Y (G5 176) Y Wo Wh Ap1 V Ap5 Ao9 Ao9 Ao9) ?_;rintro _ _ ⟨stk,hrtk,rfl⟩;obtain ⟨gtk,ctk,rfl⟩:=hrtk.form;refine Za Y<|Z0<|Zn [10,1,2,3,4] ?_;refine Bi (e':=[(10,_)]) (by exact ⟨z9,es1,ck1,lm1,su1,_,⟨⟨⟨hr9,hc9⟩,by have h1:=hok.free;have h2:=hok9.free;rw [Ku]at h1 h2;rw [Jf]at h1;omega,fun x hx=>hne x hx⟩,hok9⟩,rfl,rfl⟩)
  cases g7
 rintro _ _ ⟨z1,es1,ck1,lm1,su1,tv,⟨⟨⟨hr1,hcp1⟩,hfit,hfree⟩,hok1⟩,rfl,rfl⟩;rw [<-hr1,<-hcp1];have hu1:=hok1.use (k:Int)
 have hfr1:z1.fr<=1000000:=by have h1:=hok1.free;have h2:=hok1.cap;have h3:=Mv hok1.sz 0;omega
 refine Fv (s:=z1.S) Wo (fun hd1=>?_);rw [Bd.keys]at hd1;refine Zq<|Zg<|Za Y<|Z0<|Zx<|Zq<|TK<|Zx<|Zq<|AO<|Zb [10,13,1,2,3,4] ?_;refine BI (e0:=[(10,_),(13,_)]) (fun m e H=>m=0/\(True)/\e=[(10,tv),(13,.slice none 0 0)]/\H=[]) (by exact ⟨V,trivial,V,V⟩) Wp ?_;rintro _ _ _ ⟨rfl,_,rfl,rfl⟩;refine Zq<|Zq<|Zg<|Zl Ab9 Y ?_;refine Zp Y V<|Zh 9 AX0 V rfl AU1 Y<|CW (Gc Wo (z1.root)) (BX AU2 Y Ap1) V rfl ?_;refine Zm Y<|Zv (Dq Y Y)<|Z0<|Zx<|Aw Y (fun g5=>?_) (fun g5=>?_)
 ·
  exfalso;omega
 refine BG<|Zt<|Zt<|AX<|Zx<|Zq<|Zq<|Zg<|Zl Ab9 Y ?_;refine Zp Y V<|Zh 9 AX0 V rfl AU1 Y<|CW (Gc Wo (z1.root)) (BX AU2 Y Ap1) V rfl ?_;refine Zm Y<|Zv (Dq Y Y)<|Z0<|Zx<|Aw Y (fun g6=>?_) (fun g6=>?_)
 ·
  exfalso;omega
 refine AJ<|Zx<|Zq<|Zg<|Zm Y<|Zm Y<|Zm Y<|Zv (BL (vs:=[(0,_),(1,_),(2,_)]) (cs:=#[_,_,_,_,_]) Y (AY (pl:=#[(0,1),(1,1),(2,1),(3,1),(4,1)]) zeroValue178 AY0 (fun _=>by kernel_rfl) V))<|Ze (EX Y (cs:=#[.string y.key,I4 (k:Int),I4 sz,.pointer none,.pointer none]) Ao8) ?_;rintro _ _ ⟨bn,rfl,rfl⟩;refine Za Y<|Z0<|Zn [2,4,13,17] ?_;refine Zx<|Zq<|qN (b:=bn) (s:=z1.S) Wo Wo (fun hbn=>?_);refine C8 (s1:=z1.S) (s2:=[(bn,_)]) Wo Wo ?_;rw [show z1.S++[(bn,Obj.cells #[.string y.key,I4 (k:Int),I4 sz,.pointer none,.pointer none] 178 (0,0))]=(z1.more (⟨bn,y.key,(k:Int),sz⟩:Bn)).S from Bd.more_S z1 (⟨bn,y.key,(k:Int),sz⟩:Bn) hbn];refine Fv (s:=(z1.more (⟨bn,y.key,(k:Int),sz⟩:Bn)).S) Wo (fun hd2=>?_);rw [Bd.keys]at hd2;obtain ⟨p2,hp2,hbf2,he9,hring2⟩:=XP hok1 hd1 (⟨bn,y.key,(k:Int),sz⟩:Bn) hbn;refine Zg<|Zm Y<|Zl Ab9 Y ?_;refine Zp Y V<|Zh 0 AX0 V rfl sizeOf180 Y<|Zh 0 Ag1 V rfl Al5 Y<|Zc [_,_] Y call96 Y V (QC (z1.more (⟨bn,y.key,(k:Int),sz⟩:Bn)) hd2 he9 hp2 hbf2) ?_;rintro _ _ ⟨_,⟨rfl,rfl⟩,rfl⟩;refine Z0<|Zx<|Zq<|Zg<|Zl Ab9 Y ?_;refine Zp Y V<|Zh 8 AX0 V rfl Al6 Y<|CW (Gc Wo ((Bd.root ({(z1.more (⟨bn,y.key,(k:Int),sz⟩:Bn))with nx:=DC (DC (z1.more (⟨bn,y.key,(k:Int),sz⟩:Bn)).nx (⟨bn,y.key,(k:Int),sz⟩:Bn).b (pV (z1.more (⟨bn,y.key,(k:Int),sz⟩:Bn)).r)) p2 (pV (⟨bn,y.key,(k:Int),sz⟩:Bn).b),bf:=DC (DC (z1.more (⟨bn,y.key,(k:Int),sz⟩:Bn)).bf (⟨bn,y.key,(k:Int),sz⟩:Bn).b (pV p2)) (z1.more (⟨bn,y.key,(k:Int),sz⟩:Bn)).r (pV (⟨bn,y.key,(k:Int),sz⟩:Bn).b)}:Bd)))) (BX isAgg175 Y (by exact congrArg some hok1.mv)) V rfl ?_;refine Zm Y<|Zm Y<|Ze (Et (DT AW6 (D:=fun _=>True)) Ag2 hok1.map (fun _ _=>trivial) (trivial) Y Y Y Wo) ?_;rintro _ _ ⟨rfl,es9,ck9,lm9,hm9,hp9,rfl⟩;refine Z0<|Zn [4,13,17] ?_;refine Zx<|Zq<|Zg<|Zl Ab9 Y ?_
 refine Zm Y<|Zc [_,_,_] Y call97 Y rfl (NU ({(z1.more (⟨bn,y.key,(k:Int),sz⟩:Bn))with nx:=DC (DC (z1.more (⟨bn,y.key,(k:Int),sz⟩:Bn)).nx (⟨bn,y.key,(k:Int),sz⟩:Bn).b (pV (z1.more (⟨bn,y.key,(k:Int),sz⟩:Bn)).r)) p2 (pV (⟨bn,y.key,(k:Int),sz⟩:Bn).b),bf:=DC (DC (z1.more (⟨bn,y.key,(k:Int),sz⟩:Bn)).bf (⟨bn,y.key,(k:Int),sz⟩:Bn).b (pV p2)) (z1.more (⟨bn,y.key,(k:Int),sz⟩:Bn)).r (pV (⟨bn,y.key,(k:Int),sz⟩:Bn).b)}:Bd) hd2 (e:=(⟨bn,y.key,(k:Int),sz⟩:Bn)) he9 (.inl rfl) hok1.used (k:=k) rfl (x:=FC (L1++L2) (k:Int)) (by rw [zY,AH5 hk];rfl) Ao7 (by show 0<=sz/\sz<=_;omega) (by show _<=z1.fr/\z1.fr<=_;omega)) ?_;rintro _ _ ⟨_,⟨rfl,su9,hu9,rfl⟩,rfl⟩;refine Z0<|Zx<|Zq<|Zg<|Zm Y<|Za Y<|Za Y<|Z0<|Zx<|AC<|KI ?_;refine OI V (mI results45 Y Y) (by exact ⟨V,({({(z1.more (⟨bn,y.key,(k:Int),sz⟩:Bn))with nx:=DC (DC (z1.more (⟨bn,y.key,(k:Int),sz⟩:Bn)).nx (⟨bn,y.key,(k:Int),sz⟩:Bn).b (pV (z1.more (⟨bn,y.key,(k:Int),sz⟩:Bn)).r)) p2 (pV (⟨bn,y.key,(k:Int),sz⟩:Bn).b),bf:=DC (DC (z1.more (⟨bn,y.key,(k:Int),sz⟩:Bn)).bf (⟨bn,y.key,(k:Int),sz⟩:Bn).b (pV p2)) (z1.more (⟨bn,y.key,(k:Int),sz⟩:Bn)).r (pV (⟨bn,y.key,(k:Int),sz⟩:Bn).b)}:Bd)with fr:=z1.fr -1*sz}:Bd),es9,ck9,lm9,su9,bn,V,V,Rh hok1 hring2 hfree hm9 hp9 V hk ⟨hs1,hfit⟩ hu9,V⟩)
end Go.Proofs.YteaiajghbkenoaaGreatDoor
