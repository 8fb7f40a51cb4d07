/- query.Print. -/
import Derived.Test.YtfhjaegddfehhabGreatDoorQp2
set_option linter.unusedVariables false
set_option linter.unusedSimpArgs false
namespace Go.Proofs.YtfhjaegddfehhabGreatDoor
open Go.Proofs.Tryz
open Go Go.RowKit Gw
set_option maxRecDepth 100000
attribute [local irreducible] Gw.At Gw.Nx Gw.Ops
theorem av{k:Int}(g:1<=k/\k<=7):∀(args:AH) (w:AD),(callFunc (Xq k) args).run prog w= .ok (.enter (Xq k) args) w:=by
 unfold Xq;split;· exact call88
 · split
   · exact call89
   · split
     · exact call91
     · exact call90
theorem au(k:Int)(bq:Nat):BZ prog (Xq k) #[I5 bq] [] (fun r H'=>∃s,Row 121 r ((FN k).map fun o=> .pointer (some ⟨bq,o,none⟩)) s/\H'=[s]):=by
 unfold Xq FN;split;· exact lS bq
 · split
   · exact Ia bq
   · split
     · exact gZ bq
     · exact pQ bq
theorem WY(b:Nat)(v:A3)(l:List UInt8)(G:List A9)(m:Row 5 v (l.map u8v) G)(h0:0<l.length)(I:l.length<=1000000):BZ prog 41 #[I5 b] [[(b,.cells #[I5 b,v] 112 (0,0))],G] (fun r H'=>r= .string (str l)/\H'=[[(b,.cells #[I5 b,v] 112 (0,0))]]):=by
 rcases m with⟨_,B,_⟩|⟨g,cap,cur,z,rfl,rfl,hle,hcm,hcs,htk,hfr⟩
 · simp at B;subst B;simp at h0
 · rw [B8]at hle htk⊢
   exact OI b g cap _ l cur z h0 A1 A1 htk
theorem Rv(b:Nat)(v:A3)(l:List UInt8)(c:UInt8)(G:List A9)(g:Row 5 v (l.map u8v) G)(hb:l.length<=1099511627776):BZ prog 39 #[I5 b,.int .u8 (c.toNat:Int)] [[(b,.cells #[I5 b,v] 112 (0,0))],G] (fun r H'=>∃I B O,Row 5 I ((l++[c]).map u8v) B/\r=O/\H'=[[(b,.cells #[I5 b,I] 112 (0,0))],B]):=by
 have J:=mL;obtain ⟨gv,Z,rfl⟩:=g.form;refine Se func39 ntmps39 [0,1] ?_;intro u R;refine A0<|A4 Y<|A0<|Zm Y<|Zc [_] Y call92 Y V (Ma b _) ?_;rintro _ _ ⟨_,⟨rfl,rfl⟩,rfl⟩;refine A5<|A0<|Zm Y<|Zm Y<|Zp Y V<|Zh 1 SZ V rfl Of Y<|Zl Ss Y<|Zm Y<|Ze (Ai (vs:=[_]) (cs:=[_]) HM K0 Sp Y V rfl V rfl V)<|AG fun W=>Ze (Eb (by_:=1) (news:=[_]) HM (V:Tryz.prog.info? 5=some Tryz.t5) V rfl V rfl Y g Y Wo Wh As V GP AW (by(rw [B8];omega)) (by(rw [B8];omega))) ?_;rintro _ _ ⟨U,m,rfl⟩;obtain ⟨gq,X,rfl⟩:=m.form;refine Zp Y V<|Zh 1 SZ V rfl Of Y<|Xe (Zs Of Y Y V)<|Z0<|Zn [] ?_;refine Zx<|A0<|A4 Y<|AJ<|AO rfl results39 Y (by exact ⟨_,U,_,(by rw [C2];exact m),rfl,rfl⟩)
theorem KN(b:Nat)(v:A3)(l x:List UInt8)(I:List A9)(g:Row 5 v (l.map u8v) I)(h0:0<x.length)(hb:l.length+x.length<=1000000):BZ prog 38 #[.string (str x),I5 b] [[(b,.cells #[I5 b,v] 112 (0,0))],I] (fun r H'=>∃J m,Row 5 J ((M5 l x).map u8v) m/\H'=[[(b,.cells #[I5 b,J] 112 (0,0))],m]):=by
 refine Se func38 ntmps38 [0,1] ?_;intro u R;refine A0<|Zc [_,_] Y call39 Y V (Rv b v l 32 I g A1) ?_;rintro _ _ ⟨_,⟨X,s2,O,B,rfl,rfl⟩,rfl⟩;refine A5<|Zg<|Zm Y<|Zc [_,_] Y call37 Y V (Px b X (l++[32]) x s2 B h0 I2) ?_;rintro _ _ ⟨_,⟨Z,W,U,G,rfl,rfl⟩,rfl⟩;refine Z0<|Cw rfl results38 (by exact ⟨Z,W,by unfold M5;rw [show l++32::x=l++[32]++x by simp];exact G,rfl⟩)
theorem Kt(q:QM)(hq:BF q)(Tp:AK)(zp:Nat×Nat):BB prog 11 #[.agg q.A98] [[(1,.cells (Lib.pow10Tab.map fun z=>Value.int .u64 z).toArray Tp zp)]] (.tuple #[.string (str (CJ q)),I4 0]):=by
 have l5:=mL;have hk:1<=q.kd/\q.kd<=7:=by obtain ⟨_,_,_,h⟩:=hq;omega
 have B:=xH hq;have kv:=yg q.kd
 have gm:=Xp q.kd;have gq:=YO q.kd
 refine Se func11 ntmps11 [0] ?_;intro u R;refine A0<|Ze (Bx #[_,_,_,_,_,_,_])<|AG fun bq=>Za Y<|A4 Y<|Zq<|A0<|Zo Wh (AA (cs:=q.A98) F2 CN Y Wn (BK V)) ?_;refine Xr [_] Y call35 Y V (Jg q) ?_;rw [DE hq];refine Zv (Br Y)<|A5<|AU Y (fun hb=>by cases hb)<|fun hb=>AC<|Zx<|Zq<|Az (n:=6) (0::0::2::7::0::31::[]) 49 AE AE V<|A2 1 V (AB (off:=0) CT V rfl A6 Y)<|B9 2 V AF Y ?_;refine Zz (l:=[0,4])<|B5 [true] [(2,(_,_))] V rfl (Zw [] Y call36 Y V (U5)) ?_ Bw ?_;·
  rintro _ _ ⟨_,⟨mf,es,ck,lm,g1,e1,c1,l1,g7,e7,c7,l7,rfl,hm,hp,h1,h7,hG,rfl⟩,rfl⟩;refine ⟨Zk (Aa),?_⟩;have af:=ak hp hm.keys hk
  refine Fk 3 rfl Wh (Df (CY CM (D:=fun _=>True)) cC W3 hm (fun _ _=>trivial) (trivial) (by rw [af];first|done|rfl) Y Y) ?_;refine Yz 4 0 31 [3,2] [true,true] [(3,(_,_)),(2,(_,_))] V Y V rfl V rfl (EZ W3 (cs:=#[.string ⟨#[]⟩,.nilFunc,.map none]) AE)<|AG fun bf=>BT<|Yw 5 63 rfl (BM sizeOf106 Y Y (by intro u hu;rcases (by simpa using hu:u=_\/u=_\/u=_)with rfl|rfl|rfl<;>first|rfl|exact WM _ _ _) Wu (by exact (rfl:_=(#[.string (str (GI q.kd)),.func (.func (Xq q.kd)) #[] #[],Nc q.kd g1 g7]:AH))) Fc AW (by exact BC _))<|D4<|Ag<|Zx<|A0<|Ze (Al zeroValue112 #[_,_])<|AG fun b=>Z0<|Zn [1,4,5] ?_;refine Zx<|Zq<|BX<|Zg<|Zh 0 Sh V rfl Fo Y<|Zl HK Y ?_;refine Zc [_,_] Y call37 Y V (JY b (.slice none 0 0) [] (GI q.kd) [] (Gb _) gq.1 I2) ?_;rintro _ _ ⟨_,⟨v1,ek,j3,cu,rfl,rfl⟩,rfl⟩;refine A5<|A0<|Zv (Bh (vs:=[]) (us:=[_]) Y Y)<|A4 Y<|Zq<|A0<|Zh 1 Sh V rfl sizeOf104 Y<|Zl isAgg104 Y ?_;refine Zc [_] Y (av hk) Y V (au q.kd bq) ?_;rintro _ _ ⟨_,⟨sf,d9,rfl⟩,rfl⟩;rcases d9 with⟨_,h0,_⟩|⟨gf,cf,cur,zf,rfl,rfl,hle,hcm,hcs,htk,hfr⟩
  · exfalso;have h0:=congrArg List.length h0;rw [B8]at h0;simp at h0;simp [h0]at gm
  simp only [B8]at hle htk;simp only [B8];refine Zv (AY S1 Y)<|Zm Y<|A5<|AQ<|Zb [26,4,5,6,24,25] ?_;refine BA (e0:=[(26,_)]) (fun m e H=>∃(i:Nat) (vb:A3) (Z:List A9),m=(FN q.kd).length -i/\(i<=(FN q.kd).length/\Row 5 vb ((upP q i).map u8v) Z)/\e=[(26,I4 (i:Int))]/\H=[[(b,.cells #[I5 b,vb] 112 (0,0))],Z]) (by exact ⟨0,v1,ek,V,⟨C5 _,cu⟩,V,V⟩) Wp ?_;rintro _ _ _ ⟨i,vb,Z,rfl,⟨hi,I⟩,rfl,rfl⟩;refine A0<|Zv (Au Y Y)<|A5<|Zq<|Aq Y (fun bn=>?_) (fun bn=>?_);·
   have ic:=Kl B i;obtain ⟨o,ho⟩:∃o,(FN q.kd)[i]?=some o:=⟨_,B7 A1⟩;have X:(FN q.kd).getD i 0=o:=by rw [N6,ho];rfl
   have W:=ut q.kd o (Dg ho);have U:=uu q.kd o (Dg ho)
   have ax:cur[i]?=some (.pointer (some ⟨bq,o,none⟩)):=by
    have h:((FN q.kd).map fun o=>(.pointer (some ⟨bq,o,none⟩):A3))[i]?=some (.pointer (some ⟨bq,o,none⟩)):=by rw [E0,ho];rfl
    rw [<-htk,HJ,Ax A1]at h;simpa using h
   have gy:=PX q.kd i;have O:=Tw _ (B o)
   refine AC<|Zx<|Zq<|AQ<|A0<|Zm Y<|BV (BU S1 Tr Y Y e5)<|Zl isAgg121 Y (hv:=by exact ax) ?_;refine Za Y<|A4 Y<|Zq<|A0<|Zh 2 Sh V rfl sizeOf85 Y<|Zl isAgg85 Y ?_;refine Zm Y<|CG (cs:=[(g1,.map e1 c1),(g7,.map e7 c7)]) B4 (sN hk h1 h7 hG (i:=i) Y Y) V rfl ?_;refine Zm Y<|Zd Y V<|Zd Y V<|Za Y<|AN Y<|Zn [4,5,6,8,9,10,24,25,26] ?_;refine Zx<|A0<|Zm Y<|A5<|Aq Y (fun g=>?_) (fun g=>?_);·
    refine Zg<|Zm Y<|Zm Y<|Zc [_] Y (call38) Y V (KN b vb (upP q i) (Gz q.kd i) Z I (pC.2 g) A1) ?_;rintro _ _ ⟨_,⟨v4,j5,cO,rfl⟩,rfl⟩;refine A5<|Zg<|Zm Y<|Zm Y<|Zp Y V<|Zl AF Y (hv:=by exact jc q U W) ?_;refine Xr [_] Y call40 Y V (NA (IR q o) (B o) Tp zp) ?_;refine Zc [_] Y (call38) Y V (KN b _ (K3 q (upP q i) i) (Lib.itoa (IR q o)) _ (by unfold K3;(rw [An g];exact cO)) O.1 (by have:=PO q (upP q i) i;omega)) ?_;rintro _ _ ⟨_,⟨v5,J,G,rfl⟩,rfl⟩;rw [show M5 (K3 q (upP q i) i) (Lib.itoa (IR q o))=upP q (i+1) from by rw [KC,X]]at G;refine Z0<|A8<|Zx<|Zg<|Ya (n:=1) Y Y<|Zm Y<|Z0<|Zn [26,4,5,6,24,25] ?_;refine Ab (e':=[(26,_)]) (by exact ⟨i+1,v5,J,V,⟨by omega,G⟩,V,V⟩)
   refine AC<|Zx<|Zg<|Zm Y<|Zm Y<|Zp Y V<|Zl AF Y (hv:=by exact jc q U W) ?_;refine Xr [_] Y call40 Y V (NA (IR q o) (B o) Tp zp) ?_;refine Zc [_] Y (call38) Y V (KN b _ (K3 q (upP q i) i) (Lib.itoa (IR q o)) _ (by unfold K3;(rw [Ax (HL.1 g)];exact I)) O.1 (by have:=PO q (upP q i) i;omega)) ?_;rintro _ _ ⟨_,⟨v5,J,G,rfl⟩,rfl⟩;rw [show M5 (K3 q (upP q i) i) (Lib.itoa (IR q o))=upP q (i+1) from by rw [KC,X]]at G;refine Z0<|A8<|Zx<|Zg<|Ya (n:=1) Y Y<|Zm Y<|Z0<|Zn [26,4,5,6,24,25] ?_;refine Ab (e':=[(26,_)]) (by exact ⟨i+1,v5,J,V,⟨by omega,G⟩,V,V⟩)
  obtain rfl:i=(FN q.kd).length:=by omega
  refine Ay<|Zt<|Zt<|AR<|Zx<|A0<|Zc [_] Y call41 Y V (WY b vb _ Z I (Kl B _).1 (by have:=Kl B (FN q.kd).length;omega)) ?_;rintro _ _ ⟨_,⟨rfl,rfl⟩,rfl⟩;refine Za Y<|A4 Y<|AJ<|Cv V results11 Y Y (by exact ⟨V,V⟩)
 refine B5 [true] [(2,(_,_))] V rfl (EZ W3 (cs:=#[.string ⟨#[]⟩,.nilFunc,.map none]) AE) ?_ (fun _ _ h=>h.elim) Ah;rintro _ _ ⟨bf,rfl,rfl⟩;refine BT<|Zz (l:=[0])<|B5 [true] [(2,(_,_))] V rfl (Zw [] Y call36 Y V (U5)) ?_ Bw Ah;rintro _ _ ⟨_,⟨mf,es,ck,lm,g1,e1,c1,l1,g7,e7,c7,l7,rfl,hm,hp,h1,h7,hG,rfl⟩,rfl⟩;refine ⟨Zk (Aa),?_⟩;have af:=ak hp hm.keys hk
 refine Fk 3 rfl Wh (Df (CY CM (D:=fun _=>True)) cC W3 hm (fun _ _=>trivial) (trivial) (by rw [af];first|done|rfl) Y Y) ?_;refine Yw 5 63 rfl (BM sizeOf106 Y Y (by intro u hu;rcases (by simpa using hu:u=_\/u=_\/u=_)with rfl|rfl|rfl<;>first|rfl|exact WM _ _ _) Wu (by exact (rfl:_=(#[.string (str (GI q.kd)),.func (.func (Xq q.kd)) #[] #[],Nc q.kd g1 g7]:AH))) Fc AW (by exact BC _))<|D4<|Ag<|Zx<|A0<|Ze (Al zeroValue112 #[_,_])<|AG fun b=>Z0<|Zn [1,4,5] ?_;refine Zx<|Zq<|BX<|Zg<|Zh 0 Sh V rfl Fo Y<|Zl HK Y ?_;refine Zc [_,_] Y call37 Y V (JY b (.slice none 0 0) [] (GI q.kd) [] (Gb _) gq.1 I2) ?_;rintro _ _ ⟨_,⟨v1,ek,j3,cu,rfl,rfl⟩,rfl⟩;refine A5<|A0<|Zv (Bh (vs:=[]) (us:=[_]) Y Y)<|A4 Y<|Zq<|A0<|Zh 1 Sh V rfl sizeOf104 Y<|Zl isAgg104 Y ?_;refine Zc [_] Y (av hk) Y V (au q.kd bq) ?_;rintro _ _ ⟨_,⟨sf,d9,rfl⟩,rfl⟩;rcases d9 with⟨_,h0,_⟩|⟨gf,cf,cur,zf,rfl,rfl,hle,hcm,hcs,htk,hfr⟩
 · exfalso;have h0:=congrArg List.length h0;rw [B8]at h0;simp at h0;simp [h0]at gm
 simp only [B8]at hle htk;simp only [B8];refine Zv (AY S1 Y)<|Zm Y<|A5<|AQ<|Zb [26,4,5,6,24,25] ?_;refine BA (e0:=[(26,_)]) (fun m e H=>∃(i:Nat) (vb:A3) (Z:List A9),m=(FN q.kd).length -i/\(i<=(FN q.kd).length/\Row 5 vb ((upP q i).map u8v) Z)/\e=[(26,I4 (i:Int))]/\H=[[(b,.cells #[I5 b,vb] 112 (0,0))],Z]) (by exact ⟨0,v1,ek,V,⟨C5 _,cu⟩,V,V⟩) Wp ?_;rintro _ _ _ ⟨i,vb,Z,rfl,⟨hi,I⟩,rfl,rfl⟩;refine A0<|Zv (Au Y Y)<|A5<|Zq<|Aq Y (fun bn=>?_) (fun bn=>?_);·
  have ic:=Kl B i;obtain ⟨o,ho⟩:∃o,(FN q.kd)[i]?=some o:=⟨_,B7 A1⟩;have X:(FN q.kd).getD i 0=o:=by rw [N6,ho];rfl
  have W:=ut q.kd o (Dg ho);have U:=uu q.kd o (Dg ho)
  have ax:cur[i]?=some (.pointer (some ⟨bq,o,none⟩)):=by
   have h:((FN q.kd).map fun o=>(.pointer (some ⟨bq,o,none⟩):A3))[i]?=some (.pointer (some ⟨bq,o,none⟩)):=by rw [E0,ho];rfl
   rw [<-htk,HJ,Ax A1]at h;simpa using h
  have gy:=PX q.kd i;have O:=Tw _ (B o)
  refine AC<|Zx<|Zq<|AQ<|A0<|Zm Y<|BV (BU S1 Tr Y Y e5)<|Zl isAgg121 Y (hv:=by exact ax) ?_;refine Za Y<|A4 Y<|Zq<|A0<|Zh 2 Sh V rfl sizeOf85 Y<|Zl isAgg85 Y ?_;refine Zm Y<|CG (cs:=[(g1,.map e1 c1),(g7,.map e7 c7)]) B4 (sN hk h1 h7 hG (i:=i) Y Y) V rfl ?_;refine Zm Y<|Zd Y V<|Zd Y V<|Za Y<|AN Y<|Zn [4,5,6,8,9,10,24,25,26] ?_;refine Zx<|A0<|Zm Y<|A5<|Aq Y (fun g=>?_) (fun g=>?_);·
   refine Zg<|Zm Y<|Zm Y<|Zc [_] Y (call38) Y V (KN b vb (upP q i) (Gz q.kd i) Z I (pC.2 g) A1) ?_;rintro _ _ ⟨_,⟨v4,j5,cO,rfl⟩,rfl⟩;refine A5<|Zg<|Zm Y<|Zm Y<|Zp Y V<|Zl AF Y (hv:=by exact jc q U W) ?_;refine Xr [_] Y call40 Y V (NA (IR q o) (B o) Tp zp) ?_;refine Zc [_] Y (call38) Y V (KN b _ (K3 q (upP q i) i) (Lib.itoa (IR q o)) _ (by unfold K3;(rw [An g];exact cO)) O.1 (by have:=PO q (upP q i) i;omega)) ?_;rintro _ _ ⟨_,⟨v5,J,G,rfl⟩,rfl⟩;rw [show M5 (K3 q (upP q i) i) (Lib.itoa (IR q o))=upP q (i+1) from by rw [KC,X]]at G;refine Z0<|A8<|Zx<|Zg<|Ya (n:=1) Y Y<|Zm Y<|Z0<|Zn [26,4,5,6,24,25] ?_;refine Ab (e':=[(26,_)]) (by exact ⟨i+1,v5,J,V,⟨by omega,G⟩,V,V⟩)
  refine AC<|Zx<|Zg<|Zm Y<|Zm Y<|Zp Y V<|Zl AF Y (hv:=by exact jc q U W) ?_;refine Xr [_] Y call40 Y V (NA (IR q o) (B o) Tp zp) ?_;refine Zc [_] Y (call38) Y V (KN b _ (K3 q (upP q i) i) (Lib.itoa (IR q o)) _ (by unfold K3;(rw [Ax (HL.1 g)];exact I)) O.1 (by have:=PO q (upP q i) i;omega)) ?_;rintro _ _ ⟨_,⟨v5,J,G,rfl⟩,rfl⟩;rw [show M5 (K3 q (upP q i) i) (Lib.itoa (IR q o))=upP q (i+1) from by rw [KC,X]]at G;refine Z0<|A8<|Zx<|Zg<|Ya (n:=1) Y Y<|Zm Y<|Z0<|Zn [26,4,5,6,24,25] ?_;refine Ab (e':=[(26,_)]) (by exact ⟨i+1,v5,J,V,⟨by omega,G⟩,V,V⟩)
 obtain rfl:i=(FN q.kd).length:=by omega
 refine Ay<|Zt<|Zt<|AR<|Zx<|A0<|Zc [_] Y call41 Y V (WY b vb _ Z I (Kl B _).1 (by have:=Kl B (FN q.kd).length;omega)) ?_;rintro _ _ ⟨_,⟨rfl,rfl⟩,rfl⟩;refine Za Y<|A4 Y<|AJ<|Cv V results11 Y Y (by exact ⟨V,V⟩)
end Go.Proofs.YtfhjaegddfehhabGreatDoor
namespace Go.Proofs.YtfhjaegddfehhabGreatDoor
open Go.Proofs.Tryz
open Go Go.RowKit Gw
set_option maxRecDepth 100000
attribute [local irreducible] Gw.At Gw.Nx Gw.Ops
open Go.Sort
theorem vL(xs:List Bk):xs.map Value.string=(xs.map fun x=>x.data.toList).map encStr:=by
 rw [LN];rfl
theorem vQ(ls:List (List UInt8)):ls.map encStr=(ls.map fun l=>(⟨l.toArray⟩:Bk)).map Value.string:=by
 rw [LN];rfl
theorem SL{v:A3}{zs:List Bk}{s:List A9}(hr:Row 9 v (zs.map Value.string) s)(hl:zs.length<=1000000):BZ prog 51 #[v] [s] (fun r H'=>∃(zs':List Bk) (s':List A9),r= .tuple #[]/\zs'.Perm zs/\(zs'.Pairwise fun x y=>x.data.toList<=y.data.toList)/\Row 9 v (zs'.map Value.string) s'/\H'=[s']):=fun u R w hs=>by
 obtain ⟨ls,m⟩:∃ls,ls=zs.map fun x=>x.data.toList:=⟨_,rfl⟩;have I:ls.length=zs.length:=by rw [m,B8]
 obtain ⟨G,B⟩:∃G,G=ls.mergeSort fun x y=>decide (x<=y):=⟨_,rfl⟩;have J:G.Perm ls:=by rw [B];exact pD _ _
 have X:G.Pairwise fun x y=>x<=y:=by
  have h:=List.pairwise_mergeSort (le:=fun x y:List UInt8=>decide (x<=y)) (fun a b c h1 h2=>by simp only [G3]at*;exact List.le_trans h1 h2) (fun a b=>by simp only [SP,G3];exact List.le_total a b) ls;rw [B];simpa only [G3]using h
 have U:(G.map fun l=>(⟨l.toArray⟩:Bk)).Perm zs:=by
  have h:=J.map fun l=>(⟨l.toArray⟩:Bk);rw [m,LN]at h;have e:zs.map ((fun l:List UInt8=>(⟨l.toArray⟩:Bk))∘fun x=>x.data.toList)=zs:=by
   conv=>rhs;rw [<-List.map_id zs]
   rfl
  rwa [e]at h
 have W:(G.map fun l=>(⟨l.toArray⟩:Bk)).Pairwise fun x y=>x.data.toList<=y.data.toList:=by rw [V0];exact X
 rcases hr with⟨rfl,h0,rfl⟩|⟨g,cap,cur,z,rfl,rfl,hle,hcm,hcs,htk,hfr⟩
 · have hx:zs=[]:=by simpa using h0
   subst hx;refine (Tryz.slices_Sort_string_none none 0 w).mono ?_;rintro e w' ⟨rfl,rfl⟩;exact .inl ⟨_,[[]],V,⟨[],[],V,.refl _,.nil,by simp [Gb],V⟩,hs⟩
 · rw [vL,<-m]at htk
   rw [B8]at hle⊢;rw [B8]at htk;have O:Sat u ([(g,.cells cur 9 z)]::R) w:=by simpa using hs
   have hb:=O.get (g,.cells cur 9 z) B4;have hH:=U4 (zs:=ls) hb A1 hfr htk
   have hc:=Tryz.slices_Sort_string g 0 cap ls w hH (HU.1 hb).1 A1;rw [I]at hc;refine hc.mono ?_;rintro e w' ⟨rfl,n,os,rfl⟩;rw [<-B];have Z:=J.length_eq
   refine .inl ⟨_,[[(g,.cells (putCells encStr 0 G.toArray cur) 9 z)]],V,⟨_,_,V,U,W,?_,V⟩,by simpa using O.sorted (n:=n) _ os⟩;refine .inr ⟨g,cap,_,z,by rw [B8,B8,Z,I],rfl,by rw [B8,B8];omega,hcm,by rw [Mo];exact hcs,?_,by rw [Mo];exact hfr⟩;rw [<-vQ,B8];exact Z8 _ _ A1
theorem gV(mi:Nat):BZ prog 53 #[.map (some mi)] [] (fun r H'=>∃b,r= .func (.func 110) #[] #[I5 b]/\H'=[[(b,.cells #[.map (some mi)] 84 (0,0))]]):=by
 refine Se func53 ntmps53 [0] ?_;intro u R;refine A0<|Ze (Bx #[_])<|AG fun b=>A4 Y<|A0<|Zv (Bh (vs:=[]) (us:=[_]) Y Y)<|A4 Y<|AJ<|AO V results53 Y (by exact ⟨b,V,V⟩)
variable{es:Array MapEntry}{ck:Nat}{lm:List (Bk×A3)}
theorem gW(W:Cm (fun n:Bk=>Value.string n) es ck lm)(b mi:Nat):Kg prog 110 #[I5 b] [[(b,.cells #[.map (some mi)] 84 (0,0))]] (fun _ s=>(mi,Obj.map es ck)∈s) (fun x:Bk=>#[.string x]) (NH lm) (fun ys=>ys.Perm (lm.map (·.1))):=by
 intro l J X hy s B;refine Se func110 ntmps110 [0,1] ?_;intro u R;refine A0<|Zl OK Y<|Ze (Lg OS Y (FR Wo (X _ s B)))<|AG fun ib=>A5<|AQ<|Zb [0,5] ?_;refine BA (e0:=[]) (fun m e H=>∃(js:List Nat) (seen:Array Nat) (s:List A9),m=lm.length -js.length/\(J2 es js seen/\J ((DV lm js).map (·.1)) s)/\e=[]/\H=[[(ib,.mapIter (some mi) ck seen ck)],s]) (by exact ⟨[],#[],s,V,⟨KV _,B⟩,V,V⟩) Wp ?_;rintro _ _ _ ⟨js,seen,s,rfl,⟨I,B⟩,rfl,rfl⟩;have Z:=F8 es.size js I.nodup I.lt
 rw [W.size]at Z;refine A0<|Ze (Nk W I Y Wo (FR Wo (X _ s B))) ?_;rintro _ _ ax;rcases ax with⟨G,rfl,rfl⟩|⟨jn,pn,seen2,hpn,hjn,hi2,rfl,rfl⟩
 ·
  refine Zd Y V<|A5<|Zq<|AU Y (fun g=>by cases g)<|fun g=>Ay<|Zt<|Zt<|AR<|Cw V results110 (by exact ⟨_,s,G.map _,V,B⟩)
 refine Zd Y V<|A5<|Zq<|AU Y (fun g=>?_) (fun g=>?_);·
  have U:=F8 es.size (js++[jn]) hi2.nodup hi2.lt;rw [W.size,BW,Fl]at U;have cO:(js++[jn]).length=js.length+1:=by rw [BW];rfl
  have bn:NH lm ((DV lm js).map (·.1)++[pn.1]):=by
   have h:=TN (l:=lm) hi2.nodup (fun j hj=>by rw [<-W.size];exact hi2.lt j hj);rw [G5 lm js hpn,C2]at h;exact h
  have cu:=hy ((DV lm js).map (·.1)) pn.1 s bn B;refine AC<|Zx<|AQ<|Zq<|Zg ?_;have af:=X _ s B
  refine CG (cs:=[(ib,.mapIter (some mi) ck seen2 ck),(mi,.map es ck)]) (by simp [af]) (JK W hi2 hpn Y) V rfl<|Zd Y V<|A4 Y<|A0<|Zm Y<|Zm Y<|Ze (Ga (vs:=[_]) Y Y (cu) Wp) ?_;rintro _ _ ⟨_,⟨s',rfl,rfl,O⟩,rfl⟩;rw [show(DV lm js).map (·.1)++[pn.1]=(DV lm (js++[jn])).map (·.1) by rw [G5 lm js hpn,C2];rfl]at O;refine Zv (Br Y)<|A5<|AU Y (fun g=>by cases g)<|fun g=>AC<|A8<|Zn [0,5] ?_;refine Ab (e':=[]) (by exact ⟨js++[jn],seen2,s',V,⟨hi2,O⟩,V,V⟩)
 cases g
variable{M:List A9}
theorem Re(hm:Cm (fun n:Bk=>Value.string n) es ck lm)(hn:lm.length<=1000000)(b mi:Nat)(U:(mi,Obj.map es ck)∈M):BZ prog 175 #[.slice none 0 0,.func (.func 110) #[] #[I5 b]] [[(b,.cells #[.map (some mi)] 84 (0,0))],M] (fun r H'=>∃(zs:List Bk) (s':List A9),zs.Perm (lm.map (·.1))/\Row 9 r (zs.map Value.string) s'/\H'=[M,s']):=by
 have af:=mL;refine DT func175 V ntmps175 V ?_;intro u R;refine Zb [0,1] ?_;refine A0<|Ze (Bx #[_])<|AG fun bs=>A4 Y<|Zq<|A0<|Zm Y<|A5<|AQ<|Zb [2,6] ?_;refine BX<|JB (H0:=_) (R:=_) (I:=(fun(pre:List Bk) H=>∃m s2,H=[[(bs,.cells #[m] 45 (0,0))],s2,M]/\Row 9 m (pre.map Value.string) s2)) (E:=fun x e Hn=>e=[(5,.string x),(7,.string x)]/\Hn=[]) rfl Y call110 (gW hm b mi) (fun pre H1 c d h=>by obtain ⟨m,s2,rfl,_⟩:=h;simp [U]) Y rfl Wp (⟨_,[],rfl,Gb _⟩) ?ha_2 ?hbd_2 ?hk_2
 case ha_2=>
  intro _ x _ _;refine Zg<|AN Y<|MG (e:=[(5,_),(7,_)]) (Hn:=[]) ?_;exact ⟨V,V⟩
 case hbd_2=>
  intro l pre x u e9 X H1 R1 r9 W Z G;obtain ⟨rfl,rfl⟩:=G;obtain ⟨m,s2,rfl,B⟩:=Z;have ax:=W.len
  obtain ⟨gv,cv,rfl⟩:=B.form;refine AQ<|Zg<|Zl I3 Y<|Zm Y<|Ze (Ai (vs:=[_]) (cs:=[_]) DA Fo Hs Y V rfl V rfl V)<|AG fun b2=>Ze (Eb (by_:=16) (news:=[_]) DA (V:Tryz.prog.info? 9=some Tryz.t9) V rfl V rfl Y B Y Wo Wh As V GP AW (by(simp only [B8];omega)) (by(simp only [B8];omega))) ?_;rintro _ _ ⟨sq,g,rfl⟩;obtain ⟨gq,cq,rfl⟩:=g.form;refine Xe (Zs HI Y Y rfl)<|Z0<|A8<|F7 rfl (by exact ⟨_,_,rfl,by rw [C2];exact g⟩)
 intro D1 ys H2 O J;obtain ⟨m,s2,rfl,B⟩:=J;refine Zn [2] ?_;refine A8<|Zx<|A0<|Zl I3 Y<|A4 Y<|AJ<|GR V (eZ results175 Y) Wo (by exact ⟨ys,s2,O,B,V⟩)
theorem Ux(m:Cm (fun n:Bk=>Value.string n) es ck lm)(hn:lm.length<=1000000)(b mi:Nat)(g:(mi,Obj.map es ck)∈M):BZ prog 109 #[.func (.func 110) #[] #[I5 b]] [[(b,.cells #[.map (some mi)] 84 (0,0))],M] (fun r H'=>∃(zs:List Bk) (s':List A9),zs.Perm (lm.map (·.1))/\Row 9 r (zs.map Value.string) s'/\H'=[M,s']):=by
 refine Se func109 ntmps109 [0] ?_;intro u R;refine A0<|A4 Y<|A0<|Zm Y<|Zc [_,_] Y call175 Y V (Re m hn b mi g) ?_;rintro _ _ ⟨_,⟨zs,s2,B,G,rfl⟩,rfl⟩;refine A4 Y<|AJ<|AO V results109 Y (by exact ⟨zs,s2,B,G,V⟩)
theorem XB(U:Cm (fun n:Bk=>Value.string n) es ck lm)(hn:lm.length<=1000000)(b mi:Nat)(g:(mi,Obj.map es ck)∈M):BZ prog 52 #[.func (.func 110) #[] #[I5 b]] [[(b,.cells #[.map (some mi)] 84 (0,0))],M] (fun r H'=>∃(zs:List Bk) (s':List A9),zs.Perm (lm.map (·.1))/\(zs.Pairwise fun x y=>x.data.toList<=y.data.toList)/\Row 9 r (zs.map Value.string) s'/\H'=[M,s']):=by
 refine Se func52 ntmps52 [0] ?_;intro u R;refine A0<|A4 Y<|A0<|Zm Y<|Zc [_] Y call109 Y V (Ux U hn b mi g) ?_;rintro _ _ ⟨_,⟨zs,s2,O,W,rfl⟩,rfl⟩;have I:=O.length_eq
 rw [B8]at I;refine A4 Y<|A0<|Zm Y<|Zc [_] Y call51 Y V (SL W A1) ?_;rintro _ _ ⟨_,⟨J,X,rfl,m,G,B,rfl⟩,rfl⟩;refine A5<|A0<|Zm Y<|A4 Y<|AJ<|AO V results52 Y (by exact ⟨J,X,m.trans O,G,B,V⟩)
end Go.Proofs.YtfhjaegddfehhabGreatDoor
namespace Go.Proofs.YtfhjaegddfehhabGreatDoor
open Go.Proofs.Tryz
open Go Go.RowKit Gw
set_option maxRecDepth 100000
attribute [local irreducible] Gw.At Gw.Nx Gw.Ops
structure Bp where
 b:Nat
 key:Bk
 te:Int
 sz:Int
structure Bg where
 r:Nat
 E:List Bp
 nx:Nat->A3
 bf:Nat->A3
 cap:Int
 sh:A3
 us:A3
 mv:A3
 fr:Int
def D6(f:Nat->A3)(a:Nat)(v:A3):Nat->A3:=fun x=>if x=a then v else f x
theorem II(f:Nat->A3)(a:Nat)(v:A3):D6 f a v a=v:=Ax rfl
variable{x:Nat}
theorem Ec(f:Nat->A3){a:Nat}(v:A3)(h:x≠a):D6 f a v x=f x:=An h
def Bp.ch(nx bf:Nat->A3)(e:Bp):A9:=(e.b,.cells #[.string e.key,I4 e.te,I4 e.sz,bf e.b,nx e.b] 155 (0,0))
def Bg.S(z:Bg):List A9:=(z.r,.cells #[.string ⟨#[]⟩,I4 0,I4 0,z.bf z.r,z.nx z.r,I4 z.cap,z.sh,z.us,z.mv,I4 z.fr] 159 (0,0))::z.E.map (Bp.ch z.nx z.bf)
def Bg.bl(z:Bg):List Nat:=z.r::z.E.map (·.b)
theorem Bg.keys(z:Bg):z.S.map (·.1)=z.bl:=by
 unfold Bg.S Bg.bl;rw [Ek,LN];rfl
theorem Bg.root(z:Bg):(z.r,Obj.cells #[.string ⟨#[]⟩,I4 0,I4 0,z.bf z.r,z.nx z.r,I4 z.cap,z.sh,z.us,z.mv,I4 z.fr] 159 (0,0))∈z.S:=EV ..
variable{e:Bp}
theorem Bg.node(z:Bg)(g:e∈z.E):(e.b,Obj.cells #[.string e.key,I4 e.te,I4 e.sz,z.bf e.b,z.nx e.b] 155 (0,0))∈z.S:=FA _ (DS (f:=Bp.ch z.nx z.bf) g)
theorem GL{α β:Type}{f:α->β}:∀{l:List α},(l.map f).Nodup->∀{x y:α},x∈l->y∈l->f x=f y->x=y
 |a::l,hn,x,y,hx,hy,e=>by
  rw [Ek,Hc]at hn;rcases DB.1 hx with h1|h1
  · rcases DB.1 hy with h2|h2
    · rw [h1,h2]
    · exact absurd (by rw [<-h1,e];exact DS h2) hn.1
  · rcases DB.1 hy with h2|h2
    · exact absurd (by rw [<-h2,<-e];exact DS h1) hn.1
    · exact GL hn.2 h1 h2 e
theorem Bg.upd(z:Bg)(J:z.bl.Nodup){a:Nat}(B:a∈z.bl):∃c T,(a,Obj.cells c T (0,0))∈z.S/\(c.size=5\/c.size=10)/\∀v,IU a (.cells (c.setIfInBounds 4 v) T (0,0)) z.S=({z with nx:=D6 z.nx a v}:Bg).S/\IU a (.cells (c.setIfInBounds 3 v) T (0,0)) z.S=({z with bf:=D6 z.bf a v}:Bg).S:=by
 have g:(z.r::z.E.map (·.b)).Nodup:=J;rw [Hc]at g;rcases DB.1 B with rfl|B
 · refine ⟨_,_,z.root,.inr rfl,fun v=>?_⟩
   have hn:∀e∈z.E,e.b≠z.r:=fun e m h=>g.1 (h▸DS m);constructor<;>
   · unfold IU Bg.S
     rw [Ek,Ax rfl];congr 1;· simp only [II];rfl
     · rw [LN]
       refine W7 fun e m=>?_;show(if e.b=z.r then _ else _)=_
       rw [An (hn e m)];unfold Bp.ch;simp only [Ec _ _ (hn e m)]
 · obtain ⟨e,m,rfl⟩:=C3.1 B
   refine ⟨_,_,z.node m,.inl V,fun v=>?_⟩;have I:z.r≠e.b:=fun h=>g.1 (h▸DS m)
   constructor<;>
   · unfold IU Bg.S
     rw [Ek,An I];congr 1;· simp only [Ec _ _ I]
     · rw [LN]
       refine W7 fun e' G=>?_;show(if e'.b=e.b then _ else _)=_
       split
       · rename_i h
         obtain rfl:=GL g.2 G m h;unfold Bp.ch;simp only [II];rfl
       · rename_i h
         unfold Bp.ch;simp only [Ec _ _ h]
theorem Bg.fr_upd(z:Bg)(B:z.bl.Nodup)(v:Int):IU z.r (.cells ((#[.string ⟨#[]⟩,I4 0,I4 0,z.bf z.r,z.nx z.r,I4 z.cap,z.sh,z.us,z.mv,I4 z.fr]:AH).setIfInBounds 9 (I4 v)) 159 (0,0)) z.S=({z with fr:=v}:Bg).S:=by
 have g:(z.r::z.E.map (·.b)).Nodup:=B;rw [Hc]at g;have hn:∀e∈z.E,e.b≠z.r:=fun e m h=>g.1 (h▸DS m)
 unfold IU Bg.S;rw [Ek,Ax rfl];congr 1;rw [LN];refine W7 fun e m=>?_;show(if e.b=z.r then _ else _)=_
 rw [An (hn e m)]
def F5:Nat->List Nat->Nat->List (Nat×Nat)
 |a,[],c=>[(a,c)]
 |a,b::l,c=>(a,b)::F5 b l c
theorem Nv:∀(a:Nat) (l:List Nat),∃A p,∀y,F5 a l y=A++[(p,y)]
 |a,[]=>⟨[],a,fun _=>rfl⟩
 |a,b::l=>by
  obtain ⟨A,p,h⟩:=Nv b l;exact ⟨(a,b)::A,p,fun y=>by rw [F5,h];rfl⟩
theorem fZ:∀(l:List Nat) (c:Nat),∃n B,∀x,F5 x l c=(x,n)::B
 |[],c=>⟨c,[],fun _=>rfl⟩
 |b::l,c=>⟨b,F5 b l c,fun _=>rfl⟩
theorem Mq:∀(a:Nat) (l:List Nat) (x:Nat) (m:List Nat) (c:Nat),F5 a (l++x::m) c=F5 a l x++F5 x m c
 |a,[],x,m,c=>rfl
 |a,b::l,x,m,c=>by
  show(a,b)::F5 b (l++x::m) c=_;rw [Mq b l x m c];rfl
theorem JF:∀(a:Nat) (l:List Nat) (c:Nat),(F5 a l c).map (·.1)=a::l
 |a,[],c=>rfl
 |a,b::l,c=>by rw [F5,Ek,JF b l c]
theorem KO:∀(a:Nat) (l:List Nat) (c:Nat),(F5 a l c).map (·.2)=l++[c]
 |a,[],c=>rfl
 |a,b::l,c=>by rw [F5,Ek,KO b l c];rfl
def pV(b:Nat):A3:=I5 b
def Ip(nx bf:Nat->A3)(r:Nat)(l:List Nat):Prop:=∀q∈F5 r l r,nx q.1=pV q.2/\bf q.2=pV q.1
variable{bf nx:Nat->A3}{r:Nat}
theorem rF(h:nx r=pV r)(h2:bf r=pV r):Ip nx bf r []:=fun q g=>by
 obtain rfl:=C1.1 g;exact ⟨h,h2⟩
variable{l:List Nat}
theorem Sn(hn:(r::l).Nodup):((F5 r l r).map (·.1)).Nodup/\((F5 r l r).map (·.2)).Nodup:=by
 rw [JF,KO];refine ⟨hn,?_⟩;rw [Hc]at hn;rw [HA];exact ⟨hn.2,by simp,fun x hx y hy=>by rw [C1.1 hy];rintro rfl;exact hn.1 hx⟩
theorem Yx{l1 l2:List Nat}(hn:(r::(l1++x::l2)).Nodup)(h:Ip nx bf r (l1++x::l2)):∃p n,p∈r::(l1++l2)/\n∈r::(l1++l2)/\bf x=pV p/\nx x=pV n/\Ip (D6 nx p (pV n)) (D6 bf n (pV p)) r (l1++l2):=by
 obtain ⟨A,p,O⟩:=Nv r l1;obtain ⟨n,B,U⟩:=fZ l2 r;have e1:F5 r (l1++x::l2) r=A++(p,x)::(x,n)::B:=by rw [Mq,O,U];simp
 have e2:F5 r (l1++l2) r=A++(p,n)::B:=by
  cases l2 with
  |nil=>
   have J:=U 0;injection J with h2 h3
   injection h2 with _ h2
   subst h2 h3;rw [DG,O]
  |cons y m=>
   have J:=U 0;injection J with h2 h3
   injection h2 with _ h2
   subst h2;rw [Mq,O,<-h3];simp
 obtain ⟨I,d2⟩:=Sn hn;rw [e1,C2,Ek,Ek,HA,Hc,Hc]at I d2;have W:p∈r::(l1++l2):=by
  have:=JF r (l1++l2) r;rw [e2]at this;rw [<-this];simp
 have g:n∈r::(l1++l2):=by
  have:=KO r (l1++l2) r;rw [e2]at this;have G:n∈l1++l2++[r]:=by rw [<-this];simp
  rcases Bm.1 G with G|G
  · exact FA _ G
  · rw [C1.1 G];exact EV ..
 refine ⟨p,n,W,g,(h _ (by rw [e1];simp:(p,x)∈_)).2,(h _ (by rw [e1];simp:(x,n)∈_)).1,fun q g=>?_⟩;rw [e2]at g;rcases Bm.1 g with g|g
 · have h0:=h q (by rw [e1];simp [g])
   rw [Ec _ _ fun e=>I.2.2 _ (DS g) p (EV ..) e,Ec _ _ fun e=>d2.2.2 _ (DS g) n (FA _ (EV ..)) e];exact h0
 · rcases DB.1 g with rfl|g
   · exact ⟨II _ _ _,II _ _ _⟩
   · have h0:=h q (by rw [e1];simp [g])
     rw [Ec _ _ fun e=>I.2.1.1 (by show p∈_;rw [<-e];exact FA _ (DS g)),Ec _ _ fun e=>d2.2.1.2.1 (by show n∈_;rw [<-e];exact DS g)];exact h0
theorem Yy(hn:(r::l).Nodup)(hx:x∉r::l)(h:Ip nx bf r l):∃p,p∈r::l/\bf r=pV p/\Ip (D6 (D6 nx x (pV r)) p (pV x)) (D6 (D6 bf x (pV p)) r (pV x)) r (l++[x]):=by
 obtain ⟨A,p,U⟩:=Nv r l;have e1:=U r
 have e2:F5 r (l++[x]) r=A++(p,x)::[(x,r)]:=by rw [Mq,U];simp [F5]
 obtain ⟨O,d2⟩:=Sn hn;rw [e1,C2,HA]at O d2;have W:p∈r::l:=by
  have:=JF r l r;rw [e1]at this;rw [<-this];simp
 have I:x≠r:=fun e=>hx (by rw [e];exact EV ..);have J:x≠p:=fun e=>hx (by rw [e];exact W)
 refine ⟨p,W,(h _ (by rw [e1];simp:(p,r)∈_)).2,fun q g=>?_⟩;rw [e2]at g;have B:∀q∈A,q.1∈r::l:=fun q g=>by
  rw [<-JF r l r,e1];exact DS (by simp [g])
 have G:∀q∈A,q.2≠x:=fun q g e=>by
  have m:q.2∈l++[r]:=by rw [<-KO r l r,e1];exact DS (by simp [g])
  rw [e]at m;rcases Bm.1 m with m|m
  · exact hx (FA _ m)
  · exact I (C1.1 m)
 rcases Bm.1 g with g|g
 · have h0:=h q (by rw [e1];simp [g])
   rw [Ec _ _ fun e=>O.2.2 _ (DS g) p (EV ..) e,Ec _ _ fun e=>hx (by rw [<-e];exact B q g),Ec _ _ fun e=>d2.2.2 _ (DS g) r (EV ..) e,Ec _ _ (G q g)];exact h0
 · rcases DB.1 g with rfl|g
   · exact ⟨II _ _ _,by show D6 _ _ _ x=_;rw [Ec _ _ I,II]⟩
   · obtain rfl:=C1.1 g
     exact ⟨by show D6 _ _ _ x=_;rw [Ec _ _ J,II],II _ _ _⟩
theorem jA(r:Nat)(T:AK)(zz:Nat×Nat)(g m B X W G I J O U:A3):BZ prog 68 #[I5 r] [[(r,.cells #[g,m,B,X,W,G,I,J,O,U] T (0,0))]] (fun v H'=>v=undef/\H'=[[(r,.cells #[g,m,B,I5 r,I5 r,G,I,J,O,U] T (0,0))]]):=by
 refine Se func68 ntmps68 [0] ?_;intro u R;refine Az (n:=16) (0::0::0::4::12::0::32::96::29::285::797::1821::4095::8191::16383::32767::[]) 34816 AE AE V<|A2 0 V (AP Y)<|A2 1 V (AP Y)<|A2 2 V (AP Y)<|A2 3 V (Ap Y V)<|A2 4 V (AB (off:=0) eR V rfl dr Y)<|A2 5 V (AP Y)<|A2 6 V (Ap Y V)<|A2 7 V (AB (off:=0) eR V rfl dr Y)<|A2 8 V (Ap Y V)<|A2 9 V (AB (off:=0) eR V rfl dr Y)<|A2 10 V (AB (off:=3) LR V rfl Iv Y)<|Zz (l:=[11])<|B5 [] [] V rfl (Zs Iv Y Y V) ?_ (fun _ _ h=>h.elim) Ah;rintro _ _ ⟨rfl,rfl⟩;refine BT<|A2 12 V (Ap Y V)<|A2 13 V (AB (off:=0) eR V rfl dr Y)<|A2 14 V (AB (off:=4) LR V rfl Iv Y)<|Zz (l:=[15])<|B5 [] [] V rfl (Zs Iv Y Y V) ?_ (fun _ _ h=>h.elim) Ah;rintro _ _ ⟨rfl,rfl⟩;refine BT<|Ag<|Cw V results68 (by exact ⟨V,V⟩)
theorem Qp(z:Bg)(G:z.bl.Nodup)(B:e∈z.E){p n:Nat}(I:p∈z.bl)(hn:n∈z.bl)(g:z.bf e.b=pV p)(m:z.nx e.b=pV n):BZ prog 95 #[.pointer (some ⟨e.b,0,none⟩)] [z.S] (fun v H'=>v=undef/\H'=[({z with nx:=D6 z.nx p (pV n),bf:=D6 z.bf n (pV p)}:Bg).S]):=by
 obtain ⟨c1,X,J,s1,U⟩:=z.upd G I;obtain ⟨c2,Z,O,s2,W⟩:=Bg.upd ({z with nx:=D6 z.nx p (pV n)}:Bg) G hn;refine Se func95 ntmps95 [0] ?_;intro u R;refine Az (n:=22) (0::1::3::7::0::16::48::112::0::256::768::1792::0::4096::12288::28672::65535::131071::262143::524287::1048575::2097151::[]) 2359296 AE AE V<|A2 0 V (AP Y)<|A2 1 V (Ap Y V)<|A2 2 V (AB (off:=3) LR V rfl Iv Y)<|Ce (D':=15) 3 V rfl V (FR Wo (z.node B)) (BO isAgg153 Y (congrArg some g)) ?_;refine A2 4 V (AP Y)<|A2 5 V (Ap Y V)<|A2 6 V (AB (off:=4) LR V rfl Iv Y)<|Ce (D':=255) 7 V rfl V (FR Wo (z.node B)) (BO isAgg153 Y (congrArg some m)) ?_;refine A2 8 V (AP Y)<|A2 9 V (Ap Y V)<|A2 10 V (AB (off:=4) LR V rfl Iv Y)<|Ce (D':=4095) 11 V rfl V (FR Wo (z.node B)) (BO isAgg153 Y (congrArg some m)) ?_;refine A2 12 V (AP Y)<|A2 13 V (Ap Y V)<|A2 14 V (AB (off:=3) LR V rfl Iv Y)<|Ce (D':=65535) 15 V rfl V (FR Wo (z.node B)) (BO isAgg153 Y (congrArg some g)) ?_;refine A2 16 V (Ap Y V)<|A2 17 V (AB (off:=4) LR V rfl Iv Y)<|Zz (l:=[18])<|B5 [false,false,false,false] [] V rfl (Gr Iv Y Y V Wo (J) (by exact (U _).1) A1 (by exact BC _)) ?_ (fun _ _ h=>h.elim) Ah;rintro _ _ ⟨rfl,rfl⟩;refine BT<|A2 19 V (Ap Y V)<|A2 20 V (AB (off:=3) LR V rfl Iv Y)<|Zz (l:=[21])<|B5 [] [] V rfl (Gr Iv Y Y V Wo (O) (by exact (W _).2) A1 (by exact BC _)) ?_ (fun _ _ h=>h.elim) Ah;rintro _ _ ⟨rfl,rfl⟩;refine BT<|Ag<|Cw V results95 (by exact ⟨V,V⟩)
variable{v:A3}{k:Nat}
theorem XI{e:AK}{xs:List A3}{s:List A9}(h:Row e v xs s){y0:A3}(hy:xs[k]?=some y0):∃b cap cur z,v=I6 b xs.length cap/\s=[(b,.cells cur e z)]/\k<cur.size/\Ik z cur.size/\cur[k]?=some y0/\∀y:A3,Row e v (xs.set k y) [(b,.cells (cur.setIfInBounds k y) e z)]:=by
 have I:=(C4.1 hy).1;obtain ⟨b,cap,cur,z,hv,J,O,h2,U⟩:=xU h I;refine ⟨b,cap,cur,z,hv,J,O,h2,?_,U⟩;obtain ⟨X,B,G,Z,W,g,_,_,_,m,_⟩:=h.some A1;rw [J]at g;injection g with g _
 injection g with _ g
 injection g with g _
 subst g;rw [<-HR,<-lx I,m];exact hy
def Eu(L:List Bp)(k:Int):Int:=(L.map fun e=>if e.te=k then e.sz else 0).sum
def Jv(L:List Bp):Int:=(L.map (·.sz)).sum
structure DF(z:Bg)(ns:Nat)(L:List Bp)(mb:Nat)(es:Array MapEntry)(ck:Nat)(lm:List (Bk×A3))(su:List A9):Prop where
 sub:∀e∈L,e∈z.E
 ring:Ip z.nx z.bf z.r (L.map (·.b))
 mv:z.mv= .map (some mb)
 map:Cm (fun k:Bk=>Value.string k) es ck lm
 mem:∀p,p∈lm↔∃e∈L,p=(e.key,pV e.b)
 keys:(L.map (·.key)).Nodup
 used:Row 3 z.us ((List.range ns).map fun k:Nat=>Value.int .i64 (Eu L (k:Int))) su
 te:∀e∈L,0<=e.te/\e.te<(ns:Int)
 sz:∀e∈L,1<=e.sz
 free:z.fr=z.cap -Jv L
 room:0<=z.fr
 sh:∃a c,z.sh= .slice a ns c
 cap:1<=z.cap/\z.cap<=1000000
theorem KA(A B:List Bp)(k:Int):Eu (A++B) k=Eu A k+Eu B k:=by unfold Eu;rw [C2,pt]
theorem K9(e:Bp)(L:List Bp)(k:Int):Eu (e::L) k=(if e.te=k then e.sz else 0)+Eu L k:=by unfold Eu;rw [Ek,kc]
theorem IV(A B:List Bp):Jv (A++B)=Jv A+Jv B:=by unfold Jv;rw [C2,pt]
theorem Hq(e:Bp)(L:List Bp):Jv (e::L)=e.sz+Jv L:=by unfold Jv;rw [Ek,kc]
theorem Nl:∀{L:List Bp},(∀e∈L,1<=e.sz)->∀k,0<=Eu L k/\Eu L k<=Jv L
 |[],_,k=>by unfold Eu Jv;simp
 |e::L,h,k=>by
  have g:=Nl (fun x hx=>h x (FA _ hx)) k;have h2:=h e (EV ..)
  rw [K9,Hq];split<;>omega
variable{ns:Nat}
theorem Vd(f g:Nat->A3)(B:k<ns)(hv:g k=v)(m:∀i,i<ns->i≠k->g i=f i):((List.range ns).map f).set k v=(List.range ns).map g:=by
 apply Mu;intro i;rw [Th,B8,cU,E0,E0];by_cases hi:i<ns
 · rw [aq hi]
   by_cases e:k=i
   · subst e;rw [Ax rfl,Ax hi,<-hv];rfl
   · rw [An e];exact congrArg some (m i hi (eM e)).symm
 · rw [An (by omega:¬k=i),MY I2];rfl
variable{z:Bg}{L:List Bp}{mb ck:Nat}{es:Array MapEntry}{lm:List (Bk×A3)}{su:List A9}
theorem DF.nodup(h:DF z ns L mb es ck lm su)(B:z.bl.Nodup):(z.r::L.map (·.b)).Nodup:=by
 have g:(z.r::z.E.map (·.b)).Nodup:=B;rw [Hc]at g⊢;refine ⟨fun J=>?_,?_⟩
 · obtain ⟨e,G,m⟩:=C3.1 J
   exact g.1 (m▸DS (h.sub e G))
 · have I:=V0.1 h.keys
   refine V0.2 (I.imp_of_mem fun{a b} ha m hne e=>hne ?_);rw [GL g.2 (h.sub a ha) (h.sub b m) e]
theorem DF.use(h:DF z ns L mb es ck lm su)(k:Int):0<=Eu L k/\Eu L k<=1000000:=by
 have g:=Nl h.sz k;have h2:=h.free;have m:=h.room;have B:=h.cap
 omega
theorem DF.size(h:DF z ns L mb es ck lm su)(g:e∈L):1<=e.sz/\e.sz<=1000000:=by
 obtain ⟨A,B,rfl⟩:=cT g;have m:=IV A (e::B)
 rw [Hq]at m;have O:=(Nl (fun x hx=>h.sz x (E7 _ hx):∀x∈A,1<=x.sz) 0)
 have U:=(Nl (fun x hx=>h.sz x (GB _ (FA _ hx)):∀x∈B,1<=x.sz) 0);have h2:=h.free;have G:=h.room;have I:=h.cap;have J:=h.sz e g
 omega
theorem DF.get(h:DF z ns L mb es ck lm su)(g:e∈L):EK e.key lm=some (pV e.b):=Cy h.map.keys ((h.mem _).2 ⟨e,g,rfl⟩)
theorem DF.none{z:Bg}{ns:Nat}{L:List Bp}{mb:Nat}{es:Array MapEntry}{ck:Nat}{lm:List (Bk×A3)}{su:List A9}(h:DF z ns L mb es ck lm su){K:Bk}(g:∀e∈L,e.key≠K):EK K lm=none:=Da fun p B=>by
 obtain ⟨e,m,rfl⟩:=(h.mem p).1 B;exact g e m
variable{L2 L1:List Bp}
theorem fF(h:DF z ns (L1++e::L2) mb es ck lm su)(hr:Ip nx bf z.r ((L1++L2).map (·.b))){I:Array MapEntry}{G:Nat}{B:List (Bk×A3)}
 (hm:Cm (fun k:Bk=>Value.string k) I G B)(hp:∀p,p∈B↔p∈lm/\p.1≠e.key)(hk:e.te=(k:Int)){O:List A9}(X:Row 3 z.us (((List.range ns).map fun i:Nat=>Value.int .i64 (Eu (L1++e::L2) (i:Int))).set k (I4 (Eu (L1++e::L2) (k:Int)+(-1)*e.sz))) O):
 DF {z with nx:=nx,bf:=bf,fr:=z.fr -(-1)*e.sz} ns (L1++L2) mb I G B O:=by
 have m:∀x∈L1++L2,x∈L1++e::L2:=fun x hx=>by
  rcases Bm.1 hx with hx|hx
  · exact E7 _ hx
  · exact GB _ (FA _ hx)
 have U:k<ns:=by have:=(h.te e B4).2;omega
 have J:∀i:Int,Eu (L1++e::L2) i=Eu (L1++L2) i+if e.te=i then e.sz else 0:=fun i=>by
  rw [KA,K9,KA];omega
 have g:=h.keys;rw [C2,Ek,HA,Hc]at g;have W:∀x∈L1++L2,x.key≠e.key:=fun x hx=>by
  rcases Bm.1 hx with hx|hx
  · exact g.2.2 _ (DS hx) _ (EV ..)
  · exact fun hh=>g.2.1.1 (hh▸DS hx)
 have h1:=h.sz e B4;have h2:=h.room
 have Z:=h.free;rw [IV,Hq]at Z;refine ⟨fun x hx=>h.sub x (m x hx),hr,h.mv,hm,fun p=>?_,?_,?_,fun x hx=>h.te x (m x hx),fun x hx=>h.sz x (m x hx),?_,?_,h.sh,h.cap⟩
 · rw [hp,h.mem]
   constructor
   · rintro ⟨⟨x,hx,rfl⟩,hn⟩
     rcases Bm.1 hx with hx|hx
     · exact ⟨x,E7 _ hx,rfl⟩
     · rcases DB.1 hx with rfl|hx
       · exact absurd rfl hn
       · exact ⟨x,GB _ hx,rfl⟩
   · rintro ⟨x,hx,rfl⟩
     exact ⟨⟨x,m x hx,V⟩,W x hx⟩
 · rw [C2,HA]
   exact ⟨g.1,g.2.1.2,fun a ha b hb=>g.2.2 a ha b (FA _ hb)⟩
 · rw [Vd (v:=I4 (Eu (L1++e::L2) (k:Int)+(-1)*e.sz)) (fun i:Nat=>Value.int .i64 (Eu (L1++e::L2) (i:Int))) (fun i:Nat=>Value.int .i64 (Eu (L1++L2) (i:Int))) U (by show Value.int .i64 _=Value.int .i64 _;rw [J,Ax hk];congr 1;omega) (fun i _ hi=>by
    show Value.int .i64 _=Value.int .i64 _;rw [J,An A1];congr 1;omega)]at X
   exact X
 · show z.fr -(-1)*e.sz=z.cap -_
   rw [IV];omega
 · show 0<=z.fr -(-1)*e.sz
   omega
theorem TF(h:DF z ns L mb es ck lm su)(hr:Ip nx bf z.r ((L++[e]).map (·.b))){G:Array MapEntry}{B:Nat}{m:List (Bk×A3)}
 (U:∀x∈L,x.key≠e.key)(hm:Cm (fun k:Bk=>Value.string k) G B m)(hp:∀p,p∈m↔p=(e.key,pV e.b)\/(p∈lm/\p.1≠e.key))(hk:e.te=(k:Int))(O:k<ns)(hs:1<=e.sz/\e.sz<=z.fr){J:List A9}(W:Row 3 z.us (((List.range ns).map fun i:Nat=>Value.int .i64 (Eu L (i:Int))).set k (I4 (Eu L (k:Int)+1*e.sz))) J):
 DF {z with E:=z.E++[e],nx:=nx,bf:=bf,fr:=z.fr -1*e.sz} ns (L++[e]) mb G B m J:=by
 have I:∀i:Int,Eu (L++[e]) i=Eu L i+if e.te=i then e.sz else 0:=fun i=>by
  rw [KA,K9];unfold Eu;simp
 have h3:=h.free;have g:∀{Q:Bp->Prop},(∀x∈L,Q x)->Q e->∀x∈L++[e],Q x:=fun X h2 x hx=>by
  rcases Bm.1 hx with hx|hx
  · exact X x hx
  · rw [C1.1 hx];exact h2
 refine ⟨g (fun x hx=>E7 _ (h.sub x hx)) (GB _ (C1.2 V)),hr,h.mv,hm,fun p=>?_,?_,?_,g h.te ⟨by omega,by omega⟩,g h.sz hs.1,?_,?_,h.sh,h.cap⟩
 · rw [hp,h.mem]
   constructor
   · rintro (rfl|⟨⟨x,hx,rfl⟩,_⟩)
     · exact ⟨e,by simp,rfl⟩
     · exact ⟨x,E7 _ hx,rfl⟩
   · rintro ⟨x,hx,rfl⟩
     rcases Bm.1 hx with hx|hx
     · exact .inr ⟨⟨x,hx,rfl⟩,U x hx⟩
     · rw [C1.1 hx];exact .inl rfl
 · rw [C2,HA]
   refine ⟨h.keys,by simp,fun a Z b hb=>?_⟩;obtain ⟨x,hx,rfl⟩:=C3.1 Z;obtain rfl:=C1.1 hb;exact U x hx
 · rw [Vd (v:=I4 (Eu L (k:Int)+1*e.sz)) (fun i:Nat=>Value.int .i64 (Eu L (i:Int))) (fun i:Nat=>Value.int .i64 (Eu (L++[e]) (i:Int))) O (by show Value.int .i64 _=Value.int .i64 _;rw [I,Ax hk];congr 1;omega) (fun i _ hi=>by
    show Value.int .i64 _=Value.int .i64 _;rw [I,An A1];congr 1;omega)]at W
   exact W
 · show z.fr -1*e.sz=z.cap -_
   rw [IV,Hq];unfold Jv at*;simp;omega
 · show 0<=z.fr -1*e.sz
   omega
theorem ZG(h:DF z ns (L1++e::L2) mb es ck lm su)(I:Ip nx bf z.r ((L1++L2++[e]).map (·.b))):
 DF {z with nx:=nx,bf:=bf} ns (L1++L2++[e]) mb es ck lm su:=by
 have m:(L1++L2++[e]).Perm (L1++e::L2):=by
  rw [D3];exact PJ _ (Ly (l₁:=L2) (l₂:=[e]))
 have g:∀x,x∈L1++L2++[e]↔x∈L1++e::L2:=fun x=>m.mem_iff;have G:∀i:Int,Eu (L1++L2++[e]) i=Eu (L1++e::L2) i:=fun i=>by
  rw [KA,KA,KA,K9,K9];unfold Eu;simp;omega
 have B:Jv (L1++L2++[e])=Jv (L1++e::L2):=by
  rw [IV,IV,IV,Hq,Hq];unfold Jv;simp;omega
 refine ⟨fun x hx=>h.sub x ((g x).1 hx),I,h.mv,h.map,fun p=>?_,?_,?_,fun x hx=>h.te x ((g x).1 hx),fun x hx=>h.sz x ((g x).1 hx),by rw [B];exact h.free,h.room,h.sh,h.cap⟩
 · rw [h.mem]
   exact ⟨fun⟨x,hx,e⟩=>⟨x,(g x).2 hx,e⟩,fun⟨x,hx,e⟩=>⟨x,(g x).1 hx,e⟩⟩
 · exact (m.map _).nodup_iff.2 h.keys
 · rw [show(fun k:Nat=>Value.int .i64 (Eu (L1++L2++[e]) (k:Int)))=fun k:Nat=>Value.int .i64 (Eu (L1++e::L2) (k:Int)) from funext fun i=>by rw [G]]
   exact h.used
theorem MV(z:Bg)(g:z.bl.Nodup)(G:e∈z.E){p:Nat}(I:p∈z.bl)(m:z.bf z.r=pV p):BZ prog 76 #[.pointer (some ⟨e.b,0,none⟩),.pointer (some ⟨z.r,0,none⟩)] [z.S] (fun v H'=>v=undef/\H'=[({z with nx:=D6 (D6 z.nx e.b (pV z.r)) p (pV e.b),bf:=D6 (D6 z.bf e.b (pV p)) z.r (pV e.b)}:Bg).S]):=by
 have B:e.b∈z.bl:=FA _ (DS G);obtain ⟨c1,T1,J,s1,X⟩:=z.upd g B;obtain ⟨c2,T2,O,s2,Z⟩:=Bg.upd ({z with bf:=D6 z.bf e.b (pV p)}:Bg) g B;obtain ⟨c3,T3,U,s3,u3⟩:=Bg.upd ({z with bf:=D6 z.bf e.b (pV p),nx:=D6 z.nx e.b (pV z.r)}:Bg) g I;obtain ⟨c4,T4,W,s4,u4⟩:=Bg.upd ({z with bf:=D6 z.bf e.b (pV p),nx:=D6 (D6 z.nx e.b (pV z.r)) p (pV e.b)}:Bg) g (EV ..);refine Se func76 ntmps76 [0,1] ?_;intro u R;refine A0<|Zm Y<|Zm Y<|Zm Y<|Zp Y V<|Zh 3 LR V rfl Iv Y<|CG (Gd Wo (z.root)) (BO isAgg153 Y (congrArg some m)) V rfl<|Zm Y<|Zp Y V<|Zh 3 LR V rfl Iv Y<|Xe (Gr Iv Y Y V Wo (J) (by exact (X _).2) A1 (by exact BC _))<|Zp Y V<|Zh 4 LR V rfl Iv Y<|Xe (Gr Iv Y Y V Wo (O) (by exact (Z _).1) A1 (by exact BC _))<|Z0<|Zn [0,1] ?_;refine Zx<|Zg<|Zm Y<|Zp Y V<|Zh 3 LR V rfl Iv Y<|CG (Gd Wo ((Bg.node ({z with bf:=D6 z.bf e.b (pV p),nx:=D6 z.nx e.b (pV z.r)}:Bg) G))) (BO isAgg153 Y (by exact congrArg some (II _ _ _))) V rfl<|Zm Y<|Zm Y<|Zm Y<|Zp Y V<|Zh 4 LR V rfl Iv Y<|Xe (Gr Iv Y Y V Wo (U) (by exact (u3 _).1) A1 (by exact BC _))<|Zp Y V<|Zh 3 LR V rfl Iv Y<|Xe (Gr Iv Y Y V Wo (W) (by exact (u4 _).2) A1 (by exact BC _))<|Z0<|Cw V results76 (by exact ⟨V,V⟩)
theorem OD(z:Bg)(U:z.bl.Nodup)(G:e∈z.E){sg:Int}(J:sg=1\/sg=-1){xs:List A3}(hu:Row 3 z.us xs su)(X:e.te=(k:Int)){x:Int}(hx:xs[k]?=some (I4 x))(bn:-1000000000<=x/\x<=1000000000)(ax:0<=e.sz/\e.sz<=1000000000)(W:-1000000000<=z.fr/\z.fr<=1000000000):BZ prog 77 #[.pointer (some ⟨z.r,0,none⟩),.pointer (some ⟨e.b,0,none⟩),I4 sg] [z.S,su] (fun v H'=>v=undef/\∃B,Row 3 z.us (xs.set k (I4 (x+sg*e.sz))) B/\H'=[({z with fr:=z.fr -sg*e.sz}:Bg).S,B]):=by
 have Z:=(C4.1 hx).1;obtain ⟨bu,cu,cur,zu,O,rfl,af,I,g,m⟩:=XI hu hx;have hm:-1000000000<=sg*e.sz/\sg*e.sz<=1000000000:=by rcases J with rfl|rfl<;>omega
 refine Se func77 ntmps77 [0,1,2] ?_;intro u R;refine Zq<|Az (n:=19) (0::1::3::7::0::16::48::112::255::511::0::0::2048::6144::14336::31744::65535::131071::262143::[]) 262144 AE AE V<|A2 0 V (AP Y)<|A2 1 V (Ap Y V)<|A2 2 V (AB (off:=7) HS V rfl du Y)<|Ce (D':=15) 3 V rfl V (FR Wo (z.root)) (BO cJ Y (congrArg some O)) ?_;refine A2 4 V (AP Y)<|A2 5 V (Ap Y V)<|A2 6 V (AB (off:=1) LR V rfl A6 Y)<|Ce (D':=255) 7 V rfl V (FR Wo (z.node G)) (BO AF Y (by exact congrArg (fun t=>some (Value.int .i64 t)) X)) ?_;refine A2 8 rfl (BU DH A6 Y Y (by first|omega|(rw [T5];omega)))<|B9 9 rfl AF Y (hv:=by exact g) ?_;refine A2 10 V (AP Y)<|A2 11 V (AP Y)<|A2 12 V (Ap Y V)<|A2 13 V (AB (off:=2) LR V rfl A6 Y)<|Ce (D':=32767) 14 V rfl V (FR Wo (z.node G)) (BO AF Y As) ?_
 (refine Dr (D':=65535) 15 (sI Y Y (IntWalk.i64_in _ ?_)) ?_;(focus (omega)))
 (refine Dr (D':=131071) 16 (Hg Y Y (IntWalk.i64_in _ ?_)) ?_;(focus (omega)))
 refine A2 17 rfl (BU DH A6 Y Y (by first|omega|(rw [T5];omega)))<|Yw 18 524287 rfl (Zs A6 Y Y rfl (hi:=by omega) (hz:=by exact I))<|D4<|Ag<|Zn [0,1,2] ?_;refine Zx<|Az (n:=14) (0::1::3::7::0::0::32::96::224::496::1023::2047::4095::8191::[]) 8192 AE AE V<|A2 0 V (AP Y)<|A2 1 V (Ap Y V)<|A2 2 V (AB (off:=9) HS V rfl A6 Y)<|Ce (D':=15) 3 V rfl V (FR Wo (z.root)) (BO AF Y As) ?_;refine A2 4 V (AP Y)<|A2 5 V (AP Y)<|A2 6 V (Ap Y V)<|A2 7 V (AB (off:=2) LR V rfl A6 Y)<|Ce (D':=511) 8 V rfl V (FR Wo (z.node G)) (BO AF Y As) ?_
 (refine Dr (D':=1023) 9 (sI Y Y (IntWalk.i64_in _ ?_)) ?_;(focus (omega)))
 (refine Dr (D':=2047) 10 (GN Y Y (IntWalk.i64_in _ ?_)) ?_;(focus (omega)))
 refine A2 11 V (Ap Y V)<|A2 12 V (AB (off:=9) HS V rfl A6 Y)<|Zz (l:=[13])<|B5 [false,false] [] V rfl (Gr A6 Y Y V Wo (z.root) (by exact z.fr_upd U _) Wn (by exact BC _)) ?_ (fun _ _ h=>h.elim) Ah;rintro _ _ ⟨rfl,rfl⟩;refine BT<|Ag<|Cw V results77 (by exact ⟨V,_,m _,V⟩)
theorem ND(z:Bg)(m:z.mv= .map (some mb))(B:Cm (fun k:Bk=>Value.string k) es ck lm)(K:Bk):BB prog 94 #[.pointer (some ⟨z.r,0,none⟩),.string K] [z.S,[(mb,.map es ck)]] (.tuple #[(EK K lm).getD (.pointer none),.bool (EK K lm).isSome]):=by
 refine Se func94 ntmps94 [0,1] ?_;intro u R;refine A0<|Za Y<|A4 Y<|Zq<|A0<|Zm Y<|Zv (Be lf Y Y)<|A5<|AU Y (fun g=>by cases g)<|fun g=>AC<|Zx<|A0<|Zm Y<|Zp Y V<|Zh 8 HS V rfl ey Y<|CG (Gd Wo (z.root)) (BO isAgg152 Y (congrArg some m)) V rfl<|Zm Y<|Zo Wh (EC (Dl H4 (D:=fun _=>True)) fz lj B (fun _ _=>trivial) (trivial) (⟨V,V⟩) Y Y)<|Zm Y<|Zd Y V<|Zd Y V<|Za Y<|AN Y<|Zn [6,7] ?_;refine Zx<|A0<|Zm Y<|Zm Y<|Za Y<|A4 Y<|AJ<|Cv V results94 Y Y (by exact ⟨V,V⟩)
theorem VL(g:DF z ns (L1++e::L2) mb es ck lm su)(hd:z.bl.Nodup):BZ prog 72 #[.pointer (some ⟨z.r,0,none⟩),.pointer (some ⟨e.b,0,none⟩)] [z.S,[(mb,.map es ck)],su] (fun v H'=>v=undef/\∃O G B ek J,O.r=z.r/\O.cap=z.cap/\O.E=z.E/\DF O ns (L1++L2) mb G B ek J/\H'=[O.S,[(mb,.map G B)],J]):=by
 have he:e∈z.E:=g.sub e B4;have bn:=g.nodup hd
 obtain ⟨p,n,hp,hn,Z,cu,m⟩:=Yx (l1:=L1.map (·.b)) (l2:=L2.map (·.b)) (x:=e.b) (by simpa using bn) (by simpa using g.ring);have I:∀q,q∈z.r::(L1.map (·.b)++L2.map (·.b))->q∈z.bl:=fun q U=>by
  rcases DB.1 U with rfl|U
  · exact EV ..
  · rw [<-C2]at U
    obtain ⟨x,hx,rfl⟩:=C3.1 U;exact FA _ (DS (g.sub x (by rcases Bm.1 hx with h|h<;>simp [h])))
 rw [<-C2]at m;have j5:=g.te e B4
 obtain ⟨k,hk⟩:∃k:Nat,e.te=(k:Int):=⟨e.te.toNat,by omega⟩;have af:k<ns:=by omega
 have kv:=g.use (k:Int);have j3:=g.size (e:=e) B4
 have gy:=g.room;have ic:z.fr<=1000000:=by
  have h1:=g.free;have h2:=g.cap;have h3:=Nl g.sz 0
  omega
 refine Se func72 ntmps72 [0,1] ?_;intro u R;refine A0<|Zm Y<|Zc [_] Y call95 Y V (Qp z hd he (I p hp) (I n hn) Z cu) ?_;rintro _ _ ⟨_,⟨rfl,rfl⟩,rfl⟩;refine A5<|Zq<|Az (n:=9) (0::1::3::7::0::16::48::112::255::[]) 256 AE AE V<|A2 0 V (AP Y)<|A2 1 V (Ap Y V)<|A2 2 V (AB (off:=8) HS V rfl ey Y)<|Ce (D':=15) 3 V rfl V (FR Wo ((Bg.root ({z with nx:=D6 z.nx p (pV n),bf:=D6 z.bf n (pV p)}:Bg)))) (BO isAgg152 Y (congrArg some g.mv)) ?_;refine A2 4 V (AP Y)<|A2 5 V (Ap Y V)<|A2 6 V (AB (off:=0) LR V rfl Fo Y)<|Ce (D':=255) 7 V rfl V (FR Wo ((Bg.node ({z with nx:=D6 z.nx p (pV n),bf:=D6 z.bf n (pV p)}:Bg) he))) (BO HK Y As) ?_;refine Yw 8 511 V (Lh (Dl H4 (D:=fun _=>True)) fz g.map (fun _ _=>trivial) (trivial) Y Y Wo) ?_;rintro _ _ ⟨rfl,X,W,gm,ax,cO,rfl⟩;refine Ag<|Zx<|Zg<|Zm Y<|Zm Y<|Zc [_,_,_] Y call77 Y rfl (OD ({z with nx:=D6 z.nx p (pV n),bf:=D6 z.bf n (pV p)}:Bg) hd he (.inr rfl) g.used hk (k:=k) (x:=Eu (L1++e::L2) (k:Int)) (by rw [E0,aq af];rfl) A1 A1 (by show _<=z.fr/\z.fr<=_;omega)) ?_;rintro _ _ ⟨_,⟨rfl,gq,d9,rfl⟩,rfl⟩;refine Z0<|Cw V results72 (by exact ⟨V,({z with nx:=D6 z.nx p (pV n),bf:=D6 z.bf n (pV p),fr:=z.fr -(-1)*e.sz}:Bg),X,W,gm,gq,V,V,V,fF g m ax cO hk d9,V⟩)
theorem qL(m:DF z ns (L1++e::L2) mb es ck lm su)(hd:z.bl.Nodup):BZ prog 42 #[.pointer (some ⟨z.r,0,none⟩),.string e.key] [z.S,[(mb,.map es ck)],su] (fun v H'=>v= .bool true/\∃z' U O cO af,z'.r=z.r/\z'.cap=z.cap/\z'.E=z.E/\DF z' ns (L1++L2++[e]) mb U O cO af/\H'=[z'.S,[(mb,.map U O)],af]):=by
 have he:e∈z.E:=m.sub e B4;have g:=m.nodup hd
 obtain ⟨p,n,hp,hn,ax,bn,G⟩:=Yx (l1:=L1.map (·.b)) (l2:=L2.map (·.b)) (x:=e.b) (by simpa using g) (by simpa using m.ring);have J:∀q,q∈z.r::(L1.map (·.b)++L2.map (·.b))->q∈z.bl:=fun q hq=>by
  rcases DB.1 hq with rfl|hq
  · exact EV ..
  · rw [<-C2]at hq
    obtain ⟨x,hx,rfl⟩:=C3.1 hq;exact FA _ (DS (m.sub x (by rcases Bm.1 hx with h|h<;>simp [h])))
 rw [<-C2]at G;have I:(z.r::(L1++L2).map (·.b)).Nodup/\e.b∉z.r::(L1++L2).map (·.b):=by
  rw [C2,Ek,Hc,HA,Hc]at g;simp only [C2,Bm,DB,Hc,HA,not_or]at g⊢;exact ⟨⟨⟨g.1.1,g.1.2.2⟩,g.2.1,g.2.2.1.2,fun a ha b hb=>g.2.2.2 a ha b (.inr hb)⟩,fun h=>g.1.2.1 h.symm,fun h=>g.2.2.2 _ h _ (.inl V) V,g.2.2.1.1⟩
 obtain ⟨p2,cu,X,B⟩:=Yy I.1 I.2 G;have Z:p2∈z.bl:=J p2 (by rw [<-C2];exact cu)
 rw [show(L1++L2).map (·.b)++[e.b]=(L1++L2++[e]).map (·.b) by rw [C2 (l₂:=[e])];rfl]at B;have hg:=m.get (e:=e) B4
 refine Se func42 ntmps42 [0,1] ?_;intro u R;refine A0<|A4 Y<|A0<|Zm Y<|Zm Y<|Xr [_,_] Y call94 Y V (ND z m.mv m.map e.key) ?_;rw [hg,fg];refine Zm Y<|Zd Y V<|Zd Y V<|Za Y<|A4 Y<|Zq<|A0<|Zm Y<|A5<|AU Y (fun W=>?_) (fun W=>?_);·
  refine A0<|Zm Y<|Zc [_] Y call95 Y V (Qp z hd he (J p hp) (J n hn) ax bn) ?_;rintro _ _ ⟨_,⟨rfl,rfl⟩,rfl⟩;refine A5<|Zg<|Zm Y<|Zm Y<|Zp Y V<|Zh 0 HS V rfl sizeOf157 Y<|Zh 0 eR V rfl dr Y<|Zc [_,_] Y call76 Y V (MV ({z with nx:=D6 z.nx p (pV n),bf:=D6 z.bf n (pV p)}:Bg) hd he Z X) ?_;rintro _ _ ⟨_,⟨rfl,rfl⟩,rfl⟩;refine Z0<|Zn [6] ?_;refine Zx<|A0<|Zm Y<|A4 Y<|AJ<|AO V results42 Y (by exact ⟨V,({z with nx:=D6 (D6 (D6 z.nx p (pV n)) e.b (pV z.r)) p2 (pV e.b),bf:=D6 (D6 (D6 z.bf n (pV p)) e.b (pV p2)) z.r (pV e.b)}:Bg),es,ck,lm,su,V,V,V,ZG m B,V⟩)
 cases W
variable{K:Bk}
theorem qK(g:DF z ns (L) mb es ck lm su)(I:z.bl.Nodup)(B:∀e∈L,e.key≠K):BB prog 42 #[.pointer (some ⟨z.r,0,none⟩),.string K] [z.S,[(mb,.map es ck)],su] (.bool false):=by
 have G:=g.none B;refine Se func42 ntmps42 [0,1] ?_;intro u R;refine A0<|A4 Y<|A0<|Zm Y<|Zm Y<|Xr [_,_] Y call94 Y V (ND z g.mv g.map K) ?_;rw [G,Option.getD_none];refine Zm Y<|Zd Y V<|Zd Y V<|Za Y<|A4 Y<|Zq<|A0<|Zm Y<|A5<|AU Y (fun m=>by cases m)<|fun m=>AC<|Zx<|A0<|Zm Y<|A4 Y<|AJ<|AO V results42 Y (by exact ⟨V,V⟩)
theorem lX(B:DF z ns (L1++e::L2) mb es ck lm su)(hd:z.bl.Nodup):BZ prog 43 #[.pointer (some ⟨z.r,0,none⟩),.string e.key] [z.S,[(mb,.map es ck)],su] (fun v H'=>v= .bool true/\∃J m g I G,J.r=z.r/\J.cap=z.cap/\J.E=z.E/\DF J ns (L1++L2) mb m g I G/\H'=[J.S,[(mb,.map m g)],G]):=by
 have hg:=B.get (e:=e) B4;refine Se func43 ntmps43 [0,1] ?_;intro u R;refine A0<|A4 Y<|A0<|Zm Y<|Zm Y<|Xr [_,_] Y call94 Y V (ND z B.mv B.map e.key) ?_;rw [hg,fg];refine Zm Y<|Zd Y V<|Zd Y V<|Za Y<|A4 Y<|Zq<|A0<|Zm Y<|A5<|AU Y (fun O=>?_) (fun O=>?_);·
  refine Zg<|Zm Y<|Zm Y<|Zc [_,_] Y call72 Y V (VL B hd) ?_;rintro _ _ ⟨_,⟨rfl,J,m,g,I,G,Z,X,W,U,rfl⟩,rfl⟩;refine Z0<|Zn [6] ?_;refine Zx<|A0<|Zm Y<|A4 Y<|AJ<|AO V results43 Y (by exact ⟨V,J,m,g,I,G,Z,X,W,U,V⟩)
 cases O
theorem lW(g:DF z ns (L) mb es ck lm su)(I:z.bl.Nodup)(B:∀e∈L,e.key≠K):BB prog 43 #[.pointer (some ⟨z.r,0,none⟩),.string K] [z.S,[(mb,.map es ck)],su] (.bool false):=by
 have G:=g.none B;refine Se func43 ntmps43 [0,1] ?_;intro u R;refine A0<|A4 Y<|A0<|Zm Y<|Zm Y<|Xr [_,_] Y call94 Y V (ND z g.mv g.map K) ?_;rw [G,Option.getD_none];refine Zm Y<|Zd Y V<|Zd Y V<|Za Y<|A4 Y<|Zq<|A0<|Zm Y<|A5<|AU Y (fun m=>by cases m)<|fun m=>AC<|Zx<|A0<|Zm Y<|A4 Y<|AJ<|AO V results43 Y (by exact ⟨V,V⟩)
theorem xJ(B:DF z ns (L) mb es ck lm su)(hd:z.bl.Nodup)(W:k<ns):BB prog 63 #[.pointer (some ⟨z.r,0,none⟩),I4 (k:Int)] [z.S,[(mb,.map es ck)],su] (I4 (Eu L (k:Int))):=by
 obtain ⟨Z,cu,cur,zu,g,rfl,X,U,m,I⟩:=XI B.used (k:=k) (by rw [E0,aq W];rfl);rw [B8,cU]at g;refine Se func63 ntmps63 [0,1] ?_;intro u R;refine A0<|A4 Y<|Zq<|A0<|Zm Y<|Zv (Be lf Y Y)<|Zm Y<|Ae (t:=7) Y V (fun G=>by cases G)<|fun G=>Zf Y Y<|Yg (Au (n:=0) Y Y)<|Zv (AL Y Y)<|Zm Y<|Aj (t:=11) Y V (fun O=>by omega)<|fun O=>Zf Y Y<|Zf Y Y<|Yg (Ap Y V)<|Yf 7 HS V rfl du Y<|MF Y (Gd Wo (z.root)) (BO cJ Y (congrArg some g)) V rfl ?_;refine Yg (AY DH Y)<|Yg (G6 Y Y)<|Zv (AL Y Y)<|Z0<|Zn [0,1,19] ?_;refine Zx<|Aq Y (fun J=>by omega)<|fun J=>AC<|Zx<|A0<|Zm Y<|Zp Y V<|Zh 7 HS V rfl du Y<|CG (Gd Wo (z.root)) (BO cJ Y (congrArg some g)) V rfl<|Zm Y<|BV (BU DH A6 Y Y A1)<|Zl AF Y (hv:=by exact m)<|A4 Y<|AJ<|AO V results63 Y (by exact ⟨V,V⟩)
theorem eU{nx' bf':Nat->A3}(h:Ip nx bf r l)(B:∀a∈r::l,nx' a=nx a)(h2:∀a∈r::l,bf' a=bf a):Ip nx' bf' r l:=fun q m=>by
 have e1:q.1∈r::l:=by rw [<-JF r l r];exact DS m
 have e2:q.2∈r::l:=by
  have g:q.2∈l++[r]:=by rw [<-KO r l r];exact DS m
  rcases Bm.1 g with g|g
  · exact FA _ g
  · rw [C1.1 g];exact EV ..
 rw [B _ e1,h2 _ e2];exact h q m
def Bg.more(z:Bg)(e:Bp):Bg:={z with E:=z.E++[e],nx:=D6 z.nx e.b (.pointer none),bf:=D6 z.bf e.b (.pointer none)}
theorem Bg.more_S(z:Bg)(e:Bp)(g:e.b∉z.S.map (·.1)):z.S++[(e.b,.cells #[.string e.key,I4 e.te,I4 e.sz,.pointer none,.pointer none] 155 (0,0))]=(z.more e).S:=by
 rw [z.keys]at g;have B:z.r≠e.b:=fun h=>g (h▸EV ..)
 unfold Bg.more Bg.S;simp only [Ec _ _ B,C2,Ek,Kf,RM];congr 2
 · refine W7 fun x hx=>?_
   have m:x.b≠e.b:=fun h=>g (h▸FA _ (DS hx));unfold Bp.ch;simp only [Ec _ _ m]
 · unfold Bp.ch
   simp only [II]
theorem ZA(h:DF z ns L mb es ck lm su)(U:z.bl.Nodup)(e:Bp)(G:e.b∉z.S.map (·.1)):∃p,p∈(z.more e).bl/\(z.more e).bf z.r=pV p/\e∈(z.more e).E/\
 Ip (D6 (D6 (z.more e).nx e.b (pV z.r)) p (pV e.b)) (D6 (D6 (z.more e).bf e.b (pV p)) z.r (pV e.b)) z.r ((L++[e]).map (·.b)):=by
 rw [z.keys]at G;have m:∀a∈z.r::L.map (·.b),a∈z.bl:=fun a g=>by
  rcases DB.1 g with rfl|g
  · exact EV ..
  · obtain ⟨x,hx,rfl⟩:=C3.1 g
    exact FA _ (DS (h.sub x hx))
 have B:∀a∈z.r::L.map (·.b),a≠e.b:=fun a g W=>G (W▸m a g);obtain ⟨p,I,h2,J⟩:=Yy (x:=e.b) (h.nodup U) (fun hx=>G (m _ hx)) (eU (nx':=(z.more e).nx) (bf':=(z.more e).bf) h.ring (fun a g=>Ec _ _ (B a g)) (fun a g=>Ec _ _ (B a g)));refine ⟨p,?_,h2,GB _ (C1.2 rfl),by rw [C2];exact J⟩;have O:=m p I
 unfold Bg.bl Bg.more at*;rcases DB.1 O with h5|h5
 · rw [h5];exact EV ..
 · refine FA _ ?_
   show p∈(z.E++[e]).map (·.b);rw [C2];exact E7 _ h5
theorem YT{l:List Int}{i:Nat}{x:Int}(h:l[i]?=some x):(l.take (i+1)).sum=(l.take i).sum+x:=by
 obtain ⟨hi,rfl⟩:=C4.1 h;rw [RK,B7 hi,pt];simp
theorem Ob:∀{l:List Int},(∀x∈l,0<=x)->∀i,0<=(l.take i).sum/\(l.take i).sum<=l.sum
 |[],_,i=>by simp
 |x::l,h,0=>by
  have:=Ob (fun y hy=>h y (FA _ hy)) l.length;rw [GS]at this;have hx:=h x (EV ..)
  simp only [Kd,List.sum_nil,kc];omega
 |x::l,h,i+1=>by
  have:=Ob (fun y hy=>h y (FA _ hy)) i;have hx:=h x (EV ..)
  simp only [mc,kc];omega
theorem fE(r:Nat)(cap:Int)(hc:1<=cap/\cap<=1000000)(a:B6)(ns c mb g:Nat)(hn:ns<=maxLen):DF ⟨r,[],fun _=>pV r,fun _=>pV r,cap,.slice a ns c,I6 g ns ns,.map (some mb),cap⟩ ns [] mb #[] 0 [] [(g,.cells (List.replicate ns (Value.int .i64 0)).toArray 3 (0,0))]:=by
 refine ⟨fun e h=>by simp at h,rF V rfl,V,EW _,fun p=>by simp,nf,?_,fun e h=>by simp at h,fun e h=>by simp at h,?_,?_,⟨a,c,V⟩,hc⟩
 · rw [show(List.range ns).map (fun k:Nat=>Value.int .i64 (Eu [] (k:Int)))=List.replicate ns (Value.int .i64 0) from by
    rw [List.eq_replicate_iff];refine ⟨by simp,fun b m=>?_⟩;obtain ⟨k,_,rfl⟩:=C3.1 m;rfl]
   exact Je _ g _ ns B4 hn
 · show cap=cap -Jv []
   unfold Jv;simp
 · show 0<=cap
   omega
theorem GU{xs:List Int}{s:List A9}(J:Row 3 v (xs.map (Value.int .i64)) s)(hn:xs.length<=1000000):BZ prog 67 #[v] [s] (fun r H'=>∃g c s2,r= .slice g xs.length c/\Row 3 r (xs.map (Value.int .i64)) s2/\H'=[s2,s]):=by
 have af:=mL;obtain ⟨X,cv,hv⟩:=J.form;rw [B8]at hv;subst hv;refine Se func67 ntmps67 [0] ?_;intro u R;refine A0<|A4 Y<|Zq<|A0<|Zm Y<|Zv (Dq DH Y Y)<|A5<|AU Y (fun W=>?_) (fun W=>?_);·
  have O:X=none:=by cases X with
   |none=>rfl
   |some x=>cases W
  subst O;have h0:xs=[]:=by
   rcases J with⟨_,h,_⟩|⟨g,cap,cur,z,h,_⟩
   · simpa using h
   · cases h
  subst h0;refine Zq<|BX<|Zg<|A4 Y<|AJ<|Zt<|AO V results67 Y (by exact ⟨none,0,[],V,Gb _,V⟩)
 refine AC<|Zx<|A0<|Ze (ER DH A6)<|AG fun Z=>Zm Y<|Ze (Gs (by_:=8) DH (rfl:Tryz.prog.info? 3=some Tryz.t3) rfl rfl rfl rfl Y ((Je 3 Z [] 0 rfl AW)) Y (J) Wo Wo (by exact fun u hu=>by obtain ⟨x,_,rfl⟩:=C3.1 hu;rfl) I2 I2) ?_;rintro _ _ ⟨U,m,rfl⟩;rw [Ln]at m;have B:=m
 obtain ⟨I,G,rfl⟩:=m.form;refine A4 Y<|AJ<|AO V results67 Y (by exact ⟨I,G,U,by simp,B,V⟩)
theorem mo{sh:List Int}{W:List A9}(G:Row 3 v (sh.map (Value.int .i64)) W)(cap:Int)(hc:1<=cap/\cap<=1000000)(hl:1<=sh.length/\sh.length<=8)(h0:∀x∈sh,0<=x)(X:sh.sum<=cap):BZ prog 26 #[I4 cap,v] [W] (fun r H'=>∃z mb su,r= .tuple #[.pointer (some ⟨z.r,0,none⟩),I4 0]/\z.cap=cap/\DF z sh.length [] mb #[] 0 [] su/\H'=[z.S,[(mb,.map #[] 0)],su,W]):=by
 have bn:=mL;obtain ⟨pv,cv,hv⟩:=G.form;rw [B8]at hv;subst hv;refine Se func26 ntmps26 [0,1] ?_;intro u R;refine A0<|Za Y<|A4 Y<|Zq<|A0<|Zm Y<|Zv (Dw Y Y)<|Zm Y<|Aj (t:=12) Y V (fun Z=>by omega)<|fun Z=>Zf Y Y<|Yg (Et Y Y)<|Zv (AL Y Y)<|Zm Y<|Aj (t:=16) Y V (fun g2=>by omega)<|fun g2=>Zf Y Y<|Yg (AY DH Y)<|Yg (Au (n:=1) Y Y)<|Zv (AL Y Y)<|Zm Y<|Aj (t:=21) Y V (fun g3=>by omega)<|fun g3=>Zf Y Y<|Yg (AY DH Y)<|Yg (DK (n:=8) Y Y)<|Zv (AL Y Y)<|Z0<|Zn [0,1,25] ?_;refine Zx<|Aq Y (fun g4=>by omega)<|fun g4=>AC<|Zx<|A0<|Zm Y<|A4 Y<|Zq<|A0<|Zm Y<|Zv (AY DH Y)<|Zm Y<|A5<|AQ<|Zb [6,29,0,1,27,28] ?_;refine BA (e0:=[(6,_),(29,_)]) (fun m e H=>∃(i:Nat),m=sh.length -i/\(i<=sh.length)/\e=[(6,I4 (cap -(sh.take i).sum)),(29,I4 (i:Int))]/\H=[]) (by exact ⟨0,V,C5 _,by simp,V⟩) Wp ?_;rintro _ _ _ ⟨i,rfl,hi,rfl,rfl⟩;refine A0<|Zv (Au Y Y)<|A5<|Zq<|Aq Y (fun J=>?_) (fun J=>?_);·
  obtain ⟨n,hn⟩:∃n,sh[i]?=some n:=⟨_,B7 J⟩;obtain ⟨bs,cs,cur,zs,U,rfl,ax,af,I,_⟩:=XI G (k:=i) (y0:=I4 n) (by rw [E0,hn];rfl);injection U with e1 e2 e3
  subst e1 e3;have cu:=h0 n (Dg hn)
  have cO:=Ob h0 i;have O:=Ob h0 (i+1)
  rw [YT hn]at O;refine AC<|Zx<|Zq<|AQ<|A0<|BV (BU DH A6 Y Y A1)<|Zl AF Y (hv:=by exact I) ?_;refine A4 Y<|Zq<|A0<|Zm Y<|Zv (Dw Y Y)<|Zm Y<|Aj (t:=35) Y V (fun g5=>by omega)<|fun g5=>Zf Y Y<|Zf Y Y<|Yg (Et Y Y)<|Zv (AL Y Y)<|A5<|Aq Y (fun g6=>by omega)<|fun g6=>AC<|Zx<|Zg<|Zm Y<|Zm Y ?_
  (refine BV (GN Y Y (IntWalk.i64_in _ ?_)) ?_;(focus (omega)))
  refine AN Y<|Zn [0,1,6,27,28,29] ?_;refine A8<|Zx<|Zg<|Ya (n:=1) Y Y<|Zm Y<|Z0<|Zn [6,29,0,1,27,28] ?_;refine Ab (e':=[(6,_),(29,_)]) (by exact ⟨i+1,rfl,by omega,by rw [YT hn,Int.sub_sub],rfl⟩)
 refine Ay<|Zt<|Zt<|AR<|Zx<|Zb [0,1] ?_;refine DL (e0:=[(0,_),(1,_)]) (H0:=[]) (fun e H=>∃(r mb g:Nat) (gc:B6) (cc:Nat),(True)/\e=[(9,I5 r)]/\H=[[(r,.cells #[.string ⟨#[]⟩,I4 0,I4 0,.pointer none,.pointer none,I4 cap,.slice gc sh.length cc,I6 g sh.length sh.length,.map (some mb),I4 cap] 159 (0,0))],[(mb,.map #[] 0)],[(g,.cells (List.replicate sh.length (Value.int .i64 0)).toArray 3 (0,0))]]) Wp ?hx_3 ?hy_3
 case hx_3=>
  refine Az (n:=11) (0::0::2::0::8::24::0::0::255::511::1023::[]) 612 AE AE V<|A2 0 V (AP Y)<|A2 1 V (AP Y)<|A2 3 V (AP Y)<|A2 4 V (AY DH Y)<|A2 7 V (AP Y)<|Zz (l:=[2,5,6])<|B5 [] [] V rfl (Zw [_] Y call67 Y V (GU G A1)) ?_ Bw ?_;·
   rintro _ _ ⟨_,⟨gc,cc,sc,rfl,B,rfl⟩,rfl⟩;refine BT<|Zz (l:=[5,6])<|B5 [] [] V rfl (Gi (by_:=8) DH (V:Tryz.prog.info? 3=some Tryz.t3) V rfl V rfl Y Y ?_ ?_ ?_) ?hk_5 (fun _ _ h=>h.elim) ?hl_5
   (focus (omega))
   (focus (omega))
   (focus (omega))
   case hk_5=>
    rintro _ _ ⟨g,rfl,rfl⟩;refine BT<|Yw 6 255 V (DX)<|AG fun mb=>A2 8 V (BL (vs:=[(1,I4 cap),(2,.slice gc sh.length cc),(3,I6 g sh.length sh.length),(4,.map (some mb)),(5,I4 cap)]) (cs:=#[.string ⟨#[]⟩,I4 0,I4 0,.pointer none,.pointer none,I4 cap,.slice gc sh.length cc,I6 g sh.length sh.length,.map (some mb),I4 cap]) Y (AZ (pl:=#[(0,5),(5,1),(6,1),(7,1),(8,1),(9,1)]) gh HS (fun _=>by kernel_rfl) AE))<|Yw 9 1023 V (Es Y (cs:=#[.string ⟨#[]⟩,I4 0,I4 0,.pointer none,.pointer none,I4 cap,.slice gc sh.length cc,I6 g sh.length sh.length,.map (some mb),I4 cap]) AE)<|AG fun r=>A2 10 V (Aw Y)<|Ag<|Zn [9] ?_;refine BN (e':=[(9,_)]) (by exact ⟨r,mb,g,gc,cc,trivial,V,V⟩)
   refine B5 [] [] V rfl (DX) ?_ (fun _ _ h=>h.elim) Ah;rintro _ _ ⟨mb,rfl,rfl⟩;refine BT<|Zz (l:=[5])<|B5 [] [] V rfl (Gi (by_:=8) DH (V:Tryz.prog.info? 3=some Tryz.t3) V rfl V rfl Y Y ?_ ?_ ?_) ?hk_10 (fun _ _ h=>h.elim) ?hl_10
   (focus (omega))
   (focus (omega))
   (focus (omega))
   case hk_10=>
    rintro _ _ ⟨g,rfl,rfl⟩;refine BT<|A2 8 V (BL (vs:=[(1,I4 cap),(2,.slice gc sh.length cc),(3,I6 g sh.length sh.length),(4,.map (some mb)),(5,I4 cap)]) (cs:=#[.string ⟨#[]⟩,I4 0,I4 0,.pointer none,.pointer none,I4 cap,.slice gc sh.length cc,I6 g sh.length sh.length,.map (some mb),I4 cap]) Y (AZ (pl:=#[(0,5),(5,1),(6,1),(7,1),(8,1),(9,1)]) gh HS (fun _=>by kernel_rfl) AE))<|Yw 9 1023 V (Es Y (cs:=#[.string ⟨#[]⟩,I4 0,I4 0,.pointer none,.pointer none,I4 cap,.slice gc sh.length cc,I6 g sh.length sh.length,.map (some mb),I4 cap]) AE)<|AG fun r=>A2 10 V (Aw Y)<|Ag<|Zn [9] ?_;refine BN (e':=[(9,_)]) (by exact ⟨r,mb,g,gc,cc,trivial,V,V⟩)
   exact Ah
  refine B5 [] [] V rfl (Gi (by_:=8) DH (V:Tryz.prog.info? 3=some Tryz.t3) V rfl V rfl Y Y ?_ ?_ ?_) ?hk_13 (fun _ _ h=>h.elim) ?hl_13
  (focus (omega))
  (focus (omega))
  (focus (omega))
  case hk_13=>
   rintro _ _ ⟨g,rfl,rfl⟩;refine BT<|Zz (l:=[2,6])<|B5 [] [] V rfl (Zw [_] Y call67 Y V (GU G A1)) ?_ Bw ?_;·
    rintro _ _ ⟨_,⟨gc,cc,sc,rfl,B,rfl⟩,rfl⟩;refine BT<|Yw 6 255 V (DX)<|AG fun mb=>A2 8 V (BL (vs:=[(1,I4 cap),(2,.slice gc sh.length cc),(3,I6 g sh.length sh.length),(4,.map (some mb)),(5,I4 cap)]) (cs:=#[.string ⟨#[]⟩,I4 0,I4 0,.pointer none,.pointer none,I4 cap,.slice gc sh.length cc,I6 g sh.length sh.length,.map (some mb),I4 cap]) Y (AZ (pl:=#[(0,5),(5,1),(6,1),(7,1),(8,1),(9,1)]) gh HS (fun _=>by kernel_rfl) AE))<|Yw 9 1023 V (Es Y (cs:=#[.string ⟨#[]⟩,I4 0,I4 0,.pointer none,.pointer none,I4 cap,.slice gc sh.length cc,I6 g sh.length sh.length,.map (some mb),I4 cap]) AE)<|AG fun r=>A2 10 V (Aw Y)<|Ag<|Zn [9] ?_;refine BN (e':=[(9,_)]) (by exact ⟨r,mb,g,gc,cc,trivial,V,V⟩)
   refine B5 [] [] V rfl (DX) ?_ (fun _ _ h=>h.elim) Ah;rintro _ _ ⟨mb,rfl,rfl⟩;refine BT<|Zz (l:=[2])<|B5 [] [] V rfl (Zw [_] Y call67 Y V (GU G A1)) ?_ Bw Ah;rintro _ _ ⟨_,⟨gc,cc,sc,rfl,B,rfl⟩,rfl⟩;refine BT<|A2 8 V (BL (vs:=[(1,I4 cap),(2,.slice gc sh.length cc),(3,I6 g sh.length sh.length),(4,.map (some mb)),(5,I4 cap)]) (cs:=#[.string ⟨#[]⟩,I4 0,I4 0,.pointer none,.pointer none,I4 cap,.slice gc sh.length cc,I6 g sh.length sh.length,.map (some mb),I4 cap]) Y (AZ (pl:=#[(0,5),(5,1),(6,1),(7,1),(8,1),(9,1)]) gh HS (fun _=>by kernel_rfl) AE))<|Yw 9 1023 V (Es Y (cs:=#[.string ⟨#[]⟩,I4 0,I4 0,.pointer none,.pointer none,I4 cap,.slice gc sh.length cc,I6 g sh.length sh.length,.map (some mb),I4 cap]) AE)<|AG fun r=>A2 10 V (Aw Y)<|Ag<|Zn [9] ?_;refine BN (e':=[(9,_)]) (by exact ⟨r,mb,g,gc,cc,trivial,V,V⟩)
  refine B5 [] [] V rfl (DX) ?_ (fun _ _ h=>h.elim) Ah;rintro _ _ ⟨mb,rfl,rfl⟩;refine BT<|Zz (l:=[2,5])<|B5 [] [] V rfl (Zw [_] Y call67 Y V (GU G A1)) ?_ Bw ?_;·
   rintro _ _ ⟨_,⟨gc,cc,sc,rfl,B,rfl⟩,rfl⟩;refine BT<|Zz (l:=[5])<|B5 [] [] V rfl (Gi (by_:=8) DH (V:Tryz.prog.info? 3=some Tryz.t3) V rfl V rfl Y Y ?_ ?_ ?_) ?hk_24 (fun _ _ h=>h.elim) ?hl_24
   (focus (omega))
   (focus (omega))
   (focus (omega))
   case hk_24=>
    rintro _ _ ⟨g,rfl,rfl⟩;refine BT<|A2 8 V (BL (vs:=[(1,I4 cap),(2,.slice gc sh.length cc),(3,I6 g sh.length sh.length),(4,.map (some mb)),(5,I4 cap)]) (cs:=#[.string ⟨#[]⟩,I4 0,I4 0,.pointer none,.pointer none,I4 cap,.slice gc sh.length cc,I6 g sh.length sh.length,.map (some mb),I4 cap]) Y (AZ (pl:=#[(0,5),(5,1),(6,1),(7,1),(8,1),(9,1)]) gh HS (fun _=>by kernel_rfl) AE))<|Yw 9 1023 V (Es Y (cs:=#[.string ⟨#[]⟩,I4 0,I4 0,.pointer none,.pointer none,I4 cap,.slice gc sh.length cc,I6 g sh.length sh.length,.map (some mb),I4 cap]) AE)<|AG fun r=>A2 10 V (Aw Y)<|Ag<|Zn [9] ?_;refine BN (e':=[(9,_)]) (by exact ⟨r,mb,g,gc,cc,trivial,V,V⟩)
   exact Ah
  refine B5 [] [] V rfl (Gi (by_:=8) DH (V:Tryz.prog.info? 3=some Tryz.t3) V rfl V rfl Y Y ?_ ?_ ?_) ?hk_27 (fun _ _ h=>h.elim) ?hl_27
  (focus (omega))
  (focus (omega))
  (focus (omega))
  case hk_27=>
   rintro _ _ ⟨g,rfl,rfl⟩;refine BT<|Zz (l:=[2])<|B5 [] [] V rfl (Zw [_] Y call67 Y V (GU G A1)) ?_ Bw Ah;rintro _ _ ⟨_,⟨gc,cc,sc,rfl,B,rfl⟩,rfl⟩;refine BT<|A2 8 V (BL (vs:=[(1,I4 cap),(2,.slice gc sh.length cc),(3,I6 g sh.length sh.length),(4,.map (some mb)),(5,I4 cap)]) (cs:=#[.string ⟨#[]⟩,I4 0,I4 0,.pointer none,.pointer none,I4 cap,.slice gc sh.length cc,I6 g sh.length sh.length,.map (some mb),I4 cap]) Y (AZ (pl:=#[(0,5),(5,1),(6,1),(7,1),(8,1),(9,1)]) gh HS (fun _=>by kernel_rfl) AE))<|Yw 9 1023 V (Es Y (cs:=#[.string ⟨#[]⟩,I4 0,I4 0,.pointer none,.pointer none,I4 cap,.slice gc sh.length cc,I6 g sh.length sh.length,.map (some mb),I4 cap]) AE)<|AG fun r=>A2 10 V (Aw Y)<|Ag<|Zn [9] ?_;refine BN (e':=[(9,_)]) (by exact ⟨r,mb,g,gc,cc,trivial,V,V⟩)
  exact Ah
 rintro _ _ ⟨r,mb,g,gc,cc,_,rfl,rfl⟩;refine A0<|Zm Y<|Zp Y V<|Zh 0 HS V rfl sizeOf157 Y<|Zc [_] Y call68 Y V (jA r 159 (0,0) _ _ _ _ _ _ _ _ _ _) ?_;rintro _ _ ⟨_,⟨rfl,rfl⟩,rfl⟩;refine A5<|A0<|Zm Y<|Za Y<|A4 Y<|AJ<|Cv V results26 Y Y (by exact ⟨⟨r,[],fun _=>pV r,fun _=>pV r,cap,.slice gc sh.length cc,I6 g sh.length sh.length,.map (some mb),cap⟩,mb,_,V,V,fE r cap hc gc sh.length cc mb g A1,V⟩)
theorem xe(B:DF z ns L mb es ck lm su)(hd:z.bl.Nodup)(hk:k<ns){sz:Int}(l8:1<=sz)(l9:sz<=z.fr)(hK:∀e∈L,e.key≠K):BZ prog 29 #[.pointer (some ⟨z.r,0,none⟩),I4 (k:Int),.string K,I4 sz] [z.S,[(mb,.map es ck)],su] (fun v H'=>v= .tuple #[.slice none 0 0,.bool true]/\∃z' Z X p8 gq b,z'.r=z.r/\z'.cap=z.cap/\DF z' ns (L++[⟨b,K,(k:Int),sz⟩]) mb Z X p8 gq/\H'=[z'.S,[(mb,.map Z X)],gq]):=by
 obtain ⟨sha,q9,o8⟩:=B.sh;have hg:=B.none hK
 refine DT func29 V ntmps29 V ?_;intro u R;refine Zb [0,1,2,3] ?_;refine A0<|Ze (Bx #[_])<|AG fun bp=>Za Y<|A4 Y<|UR ?_;refine Zq<|A0<|Zl ID Y<|Zv (Be lf Y Y)<|Zm Y<|Ae (t:=20) Y V (fun gd=>by cases gd)<|fun gd=>Zf Y Y<|Yg (Au (n:=0) Y Y)<|Zv (AL Y Y)<|Zm Y<|Aj (t:=24) Y V (fun g2=>by omega)<|fun g2=>Zf Y Y<|Yl ID Y<|Yg (Ap Y V)<|Yf 6 HS V rfl du Y<|MF Y (Gd Wo (z.root)) (BO cJ Y (congrArg some o8)) V rfl ?_;refine Yg (AY DH Y)<|Yg (G6 Y Y)<|Zv (AL Y Y)<|Zm Y<|Aj (t:=33) Y V (fun g3=>by omega)<|fun g3=>Zf Y Y<|Yg (Dw Y Y)<|Zv (AL Y Y)<|Z0<|Zn [1,2,3,4,36] ?_;refine Zx<|Aq Y (fun g4=>by omega)<|fun g4=>AC<|Zx<|A0<|A4 Y<|Zb [10,1,2,3,4] ?_;refine DL (e0:=[(10,_)]) (H0:=[z.S,[(mb,.map es ck)],su]) (fun e H=>∃(z1:Bg) (J:Array MapEntry) (I:Nat) (gm:List (Bk×A3)) (W:List A9) (tv:A3),(((z1.r=z.r/\z1.cap=z.cap)/\sz<=z1.fr/\∀x∈L,x.key≠K)/\DF z1 ns (L) mb J I gm W)/\e=[(10,tv)]/\H=[z1.S,[(mb,.map J I)],W]) Wp ?hx_1 ?hy_1
 case hx_1=>
  refine A0<|Zl ID Y<|Zp Y rfl<|Zh 8 HS rfl rfl ey Y<|CG (Gd Wo (z.root)) (BO isAgg152 Y (congrArg some B.mv)) rfl rfl<|Zm Y<|Zo Wh (EC (Dl H4 (D:=fun _=>True)) fz lj B.map (fun _ _=>trivial) (trivial) (⟨by rw [hg];first|done|rfl,by rw [hg];first|done|rfl⟩) Y Y)<|Zm Y<|Zd Y rfl<|Zd Y rfl<|Za Y<|A4 Y<|A0<|Zm Y<|A5<|AU Y (fun g7=>by cases g7)<|fun g7=>AC<|Zn [10,1,2,3,4] ?_;refine BN (e':=[(10,_)]) (by exact ⟨z,es,ck,lm,su,_,⟨⟨⟨V,V⟩,l9,hK⟩,B⟩,V,V⟩)
 rintro _ _ ⟨z1,J,I,gm,W,tv,⟨⟨⟨l5,cu⟩,ek,U⟩,g⟩,rfl,rfl⟩;rw [<-l5,<-cu];have pz:=g.use (k:Int)
 have pq:z1.fr<=1000000:=by have h1:=g.free;have h2:=g.cap;have h3:=Nl g.sz 0;omega
 refine FB (s:=z1.S) Wo (fun cO=>?_);rw [Bg.keys]at cO;refine A0<|A4 Y<|Zq<|UU<|Zx<|Zq<|AQ<|Zb [10,13,1,2,3,4] ?_;refine BA (e0:=[(10,_),(13,_)]) (fun m e H=>m=0/\(True)/\e=[(10,tv),(13,.slice none 0 0)]/\H=[]) (by exact ⟨V,trivial,V,V⟩) Wp ?_;rintro _ _ _ ⟨rfl,_,rfl,rfl⟩;refine Zq<|A0<|Zl ID Y<|Zp Y V<|Zh 9 HS V rfl A6 Y<|CG (Gd Wo (z1.root)) (BO AF Y As) V rfl<|Zm Y<|Zv (Dw Y Y)<|A5<|Aq Y (fun g5=>by omega)<|fun g5=>Ay<|Zt<|Zt<|AR<|Zx<|Zq<|A0<|Zl ID Y<|Zp Y V<|Zh 9 HS V rfl A6 Y<|CG (Gd Wo (z1.root)) (BO AF Y As) V rfl<|Zm Y<|Zv (Dw Y Y)<|A5<|Aq Y (fun g6=>by omega)<|fun g6=>AC<|Zx<|A0<|Zm Y<|Zm Y<|Zm Y<|Zv (BL (vs:=[(0,_),(1,_),(2,_)]) (cs:=#[_,_,_,_,_]) Y (AZ (pl:=#[(0,1),(1,1),(2,1),(3,1),(4,1)]) zeroValue155 LR (fun _=>by kernel_rfl) V))<|Ze (Es Y (cs:=#[.string K,I4 (k:Int),I4 sz,.pointer none,.pointer none]) AE)<|AG fun bn=>AN Y<|Zn [2,4,13,17] ?_;refine Zx<|Zq<|wF (b:=bn) (s:=z1.S) Wo Wo (fun ax=>?_);refine CP (s1:=z1.S) (s2:=[(bn,_)]) Wo Wo ?_;rw [show z1.S++[(bn,Obj.cells #[.string K,I4 (k:Int),I4 sz,.pointer none,.pointer none] 155 (0,0))]=(z1.more (⟨bn,K,(k:Int),sz⟩:Bp)).S from Bg.more_S z1 (⟨bn,K,(k:Int),sz⟩:Bp) ax];refine FB (s:=(z1.more (⟨bn,K,(k:Int),sz⟩:Bp)).S) Wo (fun O=>?_);rw [Bg.keys]at O;obtain ⟨p2,j5,af,d9,G⟩:=ZA g cO (⟨bn,K,(k:Int),sz⟩:Bp) ax;refine Zg<|Zm Y<|Zl ID Y<|Zp Y V<|Zh 0 HS V rfl sizeOf157 Y<|Zh 0 eR V rfl dr Y<|Zc [_,_] Y call76 Y V (MV (z1.more (⟨bn,K,(k:Int),sz⟩:Bp)) O d9 j5 af) ?_;rintro _ _ ⟨_,⟨rfl,rfl⟩,rfl⟩
 refine A5<|A0<|Zl ID Y<|Zp Y V<|Zh 8 HS V rfl ey Y<|CG (Gd Wo ((Bg.root ({(z1.more (⟨bn,K,(k:Int),sz⟩:Bp))with nx:=D6 (D6 (z1.more (⟨bn,K,(k:Int),sz⟩:Bp)).nx (⟨bn,K,(k:Int),sz⟩:Bp).b (pV (z1.more (⟨bn,K,(k:Int),sz⟩:Bp)).r)) p2 (pV (⟨bn,K,(k:Int),sz⟩:Bp).b),bf:=D6 (D6 (z1.more (⟨bn,K,(k:Int),sz⟩:Bp)).bf (⟨bn,K,(k:Int),sz⟩:Bp).b (pV p2)) (z1.more (⟨bn,K,(k:Int),sz⟩:Bp)).r (pV (⟨bn,K,(k:Int),sz⟩:Bp).b)}:Bg)))) (BO isAgg152 Y (congrArg some g.mv)) V rfl<|Zm Y<|Zm Y<|Ze (FH (Dl H4 (D:=fun _=>True)) fz g.map (fun _ _=>trivial) (trivial) Y Y Y Wo) ?_;rintro _ _ ⟨rfl,ic,gy,p9,j3,kv,rfl⟩;refine Z0<|Zn [4,13,17] ?_;refine Zx<|A0<|Zl ID Y<|Zm Y<|Zc [_,_,_] Y call77 Y rfl (OD ({(z1.more (⟨bn,K,(k:Int),sz⟩:Bp))with nx:=D6 (D6 (z1.more (⟨bn,K,(k:Int),sz⟩:Bp)).nx (⟨bn,K,(k:Int),sz⟩:Bp).b (pV (z1.more (⟨bn,K,(k:Int),sz⟩:Bp)).r)) p2 (pV (⟨bn,K,(k:Int),sz⟩:Bp).b),bf:=D6 (D6 (z1.more (⟨bn,K,(k:Int),sz⟩:Bp)).bf (⟨bn,K,(k:Int),sz⟩:Bp).b (pV p2)) (z1.more (⟨bn,K,(k:Int),sz⟩:Bp)).r (pV (⟨bn,K,(k:Int),sz⟩:Bp).b)}:Bg) O (e:=(⟨bn,K,(k:Int),sz⟩:Bp)) d9 (.inl rfl) g.used (k:=k) rfl (x:=Eu (L) (k:Int)) (by rw [E0,aq hk];rfl) A1 (by show 0<=sz/\sz<=_;omega) (by show _<=z1.fr/\z1.fr<=_;omega)) ?_;rintro _ _ ⟨_,⟨rfl,pg,o9,rfl⟩,rfl⟩;refine A5<|A0<|Zm Y<|Za Y<|A4 Y<|AJ<|L6 ?_;refine PM V (rG results29 Y Y) (by exact ⟨V,({({(z1.more (⟨bn,K,(k:Int),sz⟩:Bp))with nx:=D6 (D6 (z1.more (⟨bn,K,(k:Int),sz⟩:Bp)).nx (⟨bn,K,(k:Int),sz⟩:Bp).b (pV (z1.more (⟨bn,K,(k:Int),sz⟩:Bp)).r)) p2 (pV (⟨bn,K,(k:Int),sz⟩:Bp).b),bf:=D6 (D6 (z1.more (⟨bn,K,(k:Int),sz⟩:Bp)).bf (⟨bn,K,(k:Int),sz⟩:Bp).b (pV p2)) (z1.more (⟨bn,K,(k:Int),sz⟩:Bp)).r (pV (⟨bn,K,(k:Int),sz⟩:Bp).b)}:Bg)with fr:=z1.fr -1*sz}:Bg),ic,gy,p9,pg,bn,V,V,TF g G U j3 kv V hk ⟨l8,ek⟩ o9,V⟩)
theorem xc{y:Bp}(B:DF z ns (L1++y::L2) mb es ck lm su)(hd:z.bl.Nodup)(hk:k<ns){sz:Int}(pg:1<=sz)(qx:sz<=z.fr+y.sz):BZ prog 29 #[.pointer (some ⟨z.r,0,none⟩),I4 (k:Int),.string y.key,I4 sz] [z.S,[(mb,.map es ck)],su] (fun v H'=>v= .tuple #[.slice none 0 0,.bool true]/\∃z' cu ax q9 j3 b,z'.r=z.r/\z'.cap=z.cap/\DF z' ns (L1++L2++[⟨b,y.key,(k:Int),sz⟩]) mb cu ax q9 j3/\H'=[z'.S,[(mb,.map cu ax)],j3]):=by
 obtain ⟨sha,r9,pq⟩:=B.sh;have hg:=B.get (e:=y) B4
 have l9:∀x∈L1++L2,x.key≠y.key:=fun x hx=>by
  have af:=B.keys;rw [C2,Ek,HA,Hc]at af;rcases Bm.1 hx with hx|hx
  · exact af.2.2 _ (DS hx) _ (EV ..)
  · exact fun hh=>af.2.1.1 (hh▸DS hx)
 refine DT func29 V ntmps29 V ?_;intro u R;refine Zb [0,1,2,3] ?_;refine A0<|Ze (Bx #[_])<|AG fun bp=>Za Y<|A4 Y<|UR ?_;refine Zq<|A0<|Zl ID Y<|Zv (Be lf Y Y)<|Zm Y<|Ae (t:=20) Y V (fun gd=>by cases gd)<|fun gd=>Zf Y Y<|Yg (Au (n:=0) Y Y)<|Zv (AL Y Y)<|Zm Y<|Aj (t:=24) Y V (fun g2=>by omega)<|fun g2=>Zf Y Y<|Yl ID Y<|Yg (Ap Y V)<|Yf 6 HS V rfl du Y<|MF Y (Gd Wo (z.root)) (BO cJ Y (congrArg some pq)) V rfl ?_;refine Yg (AY DH Y)<|Yg (G6 Y Y)<|Zv (AL Y Y)<|Zm Y<|Aj (t:=33) Y V (fun g3=>by omega)<|fun g3=>Zf Y Y<|Yg (Dw Y Y)<|Zv (AL Y Y)<|Z0<|Zn [1,2,3,4,36] ?_;refine Zx<|Aq Y (fun g4=>by omega)<|fun g4=>AC<|Zx<|A0<|A4 Y<|Zb [10,1,2,3,4] ?_;refine DL (e0:=[(10,_)]) (H0:=[z.S,[(mb,.map es ck)],su]) (fun e H=>∃(z1:Bg) (I:Array MapEntry) (G:Nat) (U:List (Bk×A3)) (J:List A9) (tv:A3),(((z1.r=z.r/\z1.cap=z.cap)/\sz<=z1.fr/\∀x∈L1++L2,x.key≠y.key)/\DF z1 ns (L1++L2) mb I G U J)/\e=[(10,tv)]/\H=[z1.S,[(mb,.map I G)],J]) Wp ?hx_1 ?hy_1
 case hx_1=>
  refine A0<|Zl ID Y<|Zp Y rfl<|Zh 8 HS rfl rfl ey Y<|CG (Gd Wo (z.root)) (BO isAgg152 Y (congrArg some B.mv)) rfl rfl<|Zm Y<|Zo Wh (EC (Dl H4 (D:=fun _=>True)) fz lj B.map (fun _ _=>trivial) (trivial) (⟨by rw [hg];first|done|rfl,by rw [hg];first|done|rfl⟩) Y Y)<|Zm Y<|Zd Y rfl<|Zd Y rfl<|Za Y<|A4 Y<|A0<|Zm Y<|A5<|AU Y (fun g7=>?_) (fun g7=>?_);·
   refine A0<|Zl ID Y<|Zm Y<|Zc [_,_] Y call72 Y V (VL B hd) ?_;rintro _ _ ⟨_,⟨rfl,z9,I,G,U,J,p9,l5,qw,W,rfl⟩,rfl⟩;refine Z0<|Zn [1,2,3,4,10,11] ?_;refine Zx<|BX<|Zg<|Zm Y<|Zm Y<|Ze (Ai (vs:=[_]) (cs:=[_]) underlying169 Iv lj Y V rfl V rfl V)<|AG fun b2=>Ze (Eb (by_:=8) (news:=[_]) underlying169 (V:Tryz.prog.info? 153=some Tryz.t153) V rfl V rfl Y (Gb 153) Y Wo Wh As V GP AW AW AW) ?_;rintro _ _ ⟨sj,ic,rfl⟩;obtain ⟨qo,ql,rfl⟩:=ic.form;refine AN Y<|Zn [10,1,2,3,4] ?_;refine BN (e':=[(10,_)]) (by exact ⟨z9,I,G,U,J,_,⟨⟨⟨p9,l5⟩,by have h1:=B.free;have h2:=W.free;rw [IV]at h1 h2;rw [Hq]at h1;omega,fun x hx=>l9 x hx⟩,W⟩,rfl,rfl⟩)
  cases g7
 rintro _ _ ⟨z1,I,G,U,J,tv,⟨⟨⟨p8,ek⟩,gy,Z⟩,g⟩,rfl,rfl⟩;rw [<-p8,<-ek];have qz:=g.use (k:Int)
 have qj:z1.fr<=1000000:=by have h1:=g.free;have h2:=g.cap;have h3:=Nl g.sz 0;omega
 refine FB (s:=z1.S) Wo (fun gm=>?_);rw [Bg.keys]at gm;refine A0<|A4 Y<|Zq<|UU<|Zx<|Zq<|AQ<|Zb [10,13,1,2,3,4] ?_;refine BA (e0:=[(10,_),(13,_)]) (fun m e H=>m=0/\(True)/\e=[(10,tv),(13,.slice none 0 0)]/\H=[]) (by exact ⟨V,trivial,V,V⟩) Wp ?_;rintro _ _ _ ⟨rfl,_,rfl,rfl⟩;refine Zq<|A0<|Zl ID Y<|Zp Y V<|Zh 9 HS V rfl A6 Y<|CG (Gd Wo (z1.root)) (BO AF Y As) V rfl<|Zm Y<|Zv (Dw Y Y)<|A5<|Aq Y (fun g5=>by omega)<|fun g5=>Ay<|Zt<|Zt<|AR<|Zx<|Zq<|A0<|Zl ID Y<|Zp Y V<|Zh 9 HS V rfl A6 Y<|CG (Gd Wo (z1.root)) (BO AF Y As) V rfl<|Zm Y<|Zv (Dw Y Y)<|A5<|Aq Y (fun g6=>by omega)<|fun g6=>AC<|Zx<|A0<|Zm Y<|Zm Y<|Zm Y<|Zv (BL (vs:=[(0,_),(1,_),(2,_)]) (cs:=#[_,_,_,_,_]) Y (AZ (pl:=#[(0,1),(1,1),(2,1),(3,1),(4,1)]) zeroValue155 LR (fun _=>by kernel_rfl) V))<|Ze (Es Y (cs:=#[.string y.key,I4 (k:Int),I4 sz,.pointer none,.pointer none]) AE)<|AG fun bn=>AN Y<|Zn [2,4,13,17] ?_;refine Zx<|Zq<|wF (b:=bn) (s:=z1.S) Wo Wo (fun d9=>?_);refine CP (s1:=z1.S) (s2:=[(bn,_)]) Wo Wo ?_;rw [show z1.S++[(bn,Obj.cells #[.string y.key,I4 (k:Int),I4 sz,.pointer none,.pointer none] 155 (0,0))]=(z1.more (⟨bn,y.key,(k:Int),sz⟩:Bp)).S from Bg.more_S z1 (⟨bn,y.key,(k:Int),sz⟩:Bp) d9];refine FB (s:=(z1.more (⟨bn,y.key,(k:Int),sz⟩:Bp)).S) Wo (fun X=>?_);rw [Bg.keys]at X;obtain ⟨p2,o8,cO,gq,O⟩:=ZA g gm (⟨bn,y.key,(k:Int),sz⟩:Bp) d9;refine Zg<|Zm Y<|Zl ID Y<|Zp Y V<|Zh 0 HS V rfl sizeOf157 Y<|Zh 0 eR V rfl dr Y<|Zc [_,_] Y call76 Y V (MV (z1.more (⟨bn,y.key,(k:Int),sz⟩:Bp)) X gq o8 cO) ?_;rintro _ _ ⟨_,⟨rfl,rfl⟩,rfl⟩
 refine A5<|A0<|Zl ID Y<|Zp Y V<|Zh 8 HS V rfl ey Y<|CG (Gd Wo ((Bg.root ({(z1.more (⟨bn,y.key,(k:Int),sz⟩:Bp))with nx:=D6 (D6 (z1.more (⟨bn,y.key,(k:Int),sz⟩:Bp)).nx (⟨bn,y.key,(k:Int),sz⟩:Bp).b (pV (z1.more (⟨bn,y.key,(k:Int),sz⟩:Bp)).r)) p2 (pV (⟨bn,y.key,(k:Int),sz⟩:Bp).b),bf:=D6 (D6 (z1.more (⟨bn,y.key,(k:Int),sz⟩:Bp)).bf (⟨bn,y.key,(k:Int),sz⟩:Bp).b (pV p2)) (z1.more (⟨bn,y.key,(k:Int),sz⟩:Bp)).r (pV (⟨bn,y.key,(k:Int),sz⟩:Bp).b)}:Bg)))) (BO isAgg152 Y (congrArg some g.mv)) V rfl<|Zm Y<|Zm Y<|Ze (FH (Dl H4 (D:=fun _=>True)) fz g.map (fun _ _=>trivial) (trivial) Y Y Y Wo) ?_;rintro _ _ ⟨rfl,kv,j5,qa,l8,o9,rfl⟩;refine Z0<|Zn [4,13,17] ?_;refine Zx<|A0<|Zl ID Y<|Zm Y<|Zc [_,_,_] Y call77 Y rfl (OD ({(z1.more (⟨bn,y.key,(k:Int),sz⟩:Bp))with nx:=D6 (D6 (z1.more (⟨bn,y.key,(k:Int),sz⟩:Bp)).nx (⟨bn,y.key,(k:Int),sz⟩:Bp).b (pV (z1.more (⟨bn,y.key,(k:Int),sz⟩:Bp)).r)) p2 (pV (⟨bn,y.key,(k:Int),sz⟩:Bp).b),bf:=D6 (D6 (z1.more (⟨bn,y.key,(k:Int),sz⟩:Bp)).bf (⟨bn,y.key,(k:Int),sz⟩:Bp).b (pV p2)) (z1.more (⟨bn,y.key,(k:Int),sz⟩:Bp)).r (pV (⟨bn,y.key,(k:Int),sz⟩:Bp).b)}:Bg) X (e:=(⟨bn,y.key,(k:Int),sz⟩:Bp)) gq (.inl rfl) g.used (k:=k) rfl (x:=Eu (L1++L2) (k:Int)) (by rw [E0,aq hk];rfl) A1 (by show 0<=sz/\sz<=_;omega) (by show _<=z1.fr/\z1.fr<=_;omega)) ?_;rintro _ _ ⟨_,⟨rfl,qb,pz,rfl⟩,rfl⟩;refine A5<|A0<|Zm Y<|Za Y<|A4 Y<|AJ<|L6 ?_;refine PM V (rG results29 Y Y) (by exact ⟨V,({({(z1.more (⟨bn,y.key,(k:Int),sz⟩:Bp))with nx:=D6 (D6 (z1.more (⟨bn,y.key,(k:Int),sz⟩:Bp)).nx (⟨bn,y.key,(k:Int),sz⟩:Bp).b (pV (z1.more (⟨bn,y.key,(k:Int),sz⟩:Bp)).r)) p2 (pV (⟨bn,y.key,(k:Int),sz⟩:Bp).b),bf:=D6 (D6 (z1.more (⟨bn,y.key,(k:Int),sz⟩:Bp)).bf (⟨bn,y.key,(k:Int),sz⟩:Bp).b (pV p2)) (z1.more (⟨bn,y.key,(k:Int),sz⟩:Bp)).r (pV (⟨bn,y.key,(k:Int),sz⟩:Bp).b)}:Bg)with fr:=z1.fr -1*sz}:Bg),kv,j5,qa,qb,bn,V,V,TF g O Z l8 o9 V hk ⟨pg,gy⟩ pz,V⟩)
end Go.Proofs.YtfhjaegddfehhabGreatDoor
