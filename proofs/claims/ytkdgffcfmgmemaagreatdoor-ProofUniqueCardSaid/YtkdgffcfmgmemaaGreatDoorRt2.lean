/- The reference of chapter 2: Sum, Chain, Head. -/
/- The reference of layer 1: PutInt, Int, String. -/
/- The references: Left, Leaf, Node, Root; Encode; Order, Entries, Summaries. -/
/- The references: Proof of a list; Root of a state. -/
import Derived.Test.YtkdgffcfmgmemaaGreatDoorEz
import Derived.Test.YtkdgffcfmgmemaaGreatDoorRf2
import Derived.Test.YtkdgffcfmgmemaaGreatDoorTr3
import Derived.Test.YtkdgffcfmgmemaaGreatDoorTk1
import Derived.Test.YtkdgffcfmgmemaaGreatDoorTr8
set_option linter.unusedVariables false
set_option linter.unusedSimpArgs false
namespace Go.Proofs.YtkdgffcfmgmemaaGreatDoor
open Go.Proofs.Tryz
open Go Go.RowKit Gw
set_option maxRecDepth 100000
attribute [local irreducible] Gw.At Gw.Nx Gw.Ops
theorem nQ(b l cap n:Nat)(h:l<cap)(e:n=64):Value.slice (ER (some ⟨b,0,none⟩) l cap 1) n (cap -l)= .slice (some ⟨b,l,none⟩) 64 (cap -l):=by
 subst e;unfold ER;rw [if_neg (by omega),vV,CJ,wP,uL]
theorem cB(l:List UInt32)(i:Nat)(h:i<l.length):((l.take (i+1)).flatMap JJ).map u8v=((l.take i).flatMap JJ).map u8v++[.int .u8 (((l.getD i 0)>>>UInt32.ofNat 24).toUInt8.toNat:Int),.int .u8 (((l.getD i 0)>>>UInt32.ofNat 16).toUInt8.toNat:Int),.int .u8 (((l.getD i 0)>>>UInt32.ofNat 8).toUInt8.toNat:Int),.int .u8 ((l.getD i 0).toUInt8.toNat:Int)]:=by
 have e:l.take (i+1)=l.take i++[l.getD i 0]:=by
  have:=LP (fun x:UInt32=>x) l i 0 h;simpa using this
 rw [e,vX,uK];rfl
theorem QX(l:List UInt32):(l.flatMap JJ).length=4*l.length:=by
 induction l with
 |nil=>rfl
 |cons a l ih=>simp only [ui,tK,ih,tY,JJ,vG];omega
theorem LW(l:List UInt8)(hs:l.length≤140737488355000):Av Tryz.prog 93 #[.string (str l)] [] (.string (str (sha l))):=by
 have hml:=mL;obtain ⟨M,hM⟩:∃M,(EA l).length=64*M:=⟨(EA l).length/64,by have:=QQ l;omega⟩;have hpl:=MK l
 have hzp:IP l.length<64:=by unfold IP;omega
 refine Se func93 ntmps93 [0] ?_;intro u R;refine Zq<|Zg<|Za Y<|Z0<|Zx<|Zq<|Zg<|Ze (Ae (vs:=[_,_,_,_,_,_,_,_]) (cs:=[_,_,_,_,_,_,_,_]) underlying228 sizeOf227 zeroValue227 Y rfl rfl rfl rfl rfl) ?_;rintro _ _ ⟨g0,rfl,rfl⟩;refine Za Y<|Z0<|Zx<|Zq<|Zg<|Zm Y<|Zc [_] Y call182 Y rfl (bG l hs) ?_;rintro _ _ ⟨_,⟨sp,hrp,rfl⟩,rfl⟩;obtain ⟨gp,capp,curp,zp,rfl,rfl,hlep,hcmp,hcsp,htkp,hfrp⟩:=hrp.some (by rw [tJ];omega);rw [tJ]at hlep htkp⊢;refine Za Y<|Z0<|Zx<|Zq<|Zq<|Zg<|Za Y<|Z0<|Zx<|AQ<|Zb [3,5,4] ?_;refine Az (e0:=[(3,_),(5,_)]) (fun m e H=>∃(k:Nat) (v:Value) (sv:List AR),m=M -k∧(k≤M∧Row 227 v ((FL k h0 (EA l)).list.map Bj) sv)∧e=[(3,v),(5,I4 ((64*k:Nat):Int))]∧H=[sv]) (by exact ⟨0,_,_,rfl,⟨tX _,ZL _ g0 (h0.list.map Bj) 8 rfl (by decide)⟩,rfl,rfl⟩) Wp ?_;rintro _ _ _ ⟨k,v,sv,rfl,⟨hk,hrv⟩,rfl,rfl⟩;obtain ⟨gh,caph,curh,zh,rfl,rfl,hleh,hcmh,hcsh,htkh,hfrh⟩:=hrv.some (by show 0<8;decide);rw [show(List.map Bj (FL k h0 (EA l)).list).length=8 from rfl]at hleh⊢;refine Zq<|Zq<|Zg<|Zm Y<|Zm Y<|Zv (AV underlying124 Y)<|Zv (Aq Y Y)<|Z0<|Zx ?_;refine Ao Y (fun hlt=>?_) (fun hlt=>?_)
 ·
  refine AC<|Zx<|Zq<|AQ<|Zg<|Zm Y<|Zm Y<|Zm Y<|Zm Y<|Ya (n:=64) Y Y ?_
  (refine BM (Lx underlying124 sizeOf5 Y Y Y ?_ ?_) ?_;(focus (omega));(focus (omega)))
  rw [nQ gp (64*k) capp _ (by omega) (by omega)];refine Zc [_,_] Y call183 Y rfl (Vb gh caph gp (64*k) (capp -64*k) curh curp _ _ zh zp (FL k h0 (EA l)) (((EA l).drop (64*k)).take 64) htkh (Oz (by rw [tJ];exact htkp) k (by omega)) (by rw [tL,tN];omega)) ?_;rintro _ _ ⟨_,⟨sq,hrq,rfl⟩,rfl⟩;refine Za Y<|Z0<|A8<|Zx<|Zg<|Zm Y<|Ya (n:=64) Y Y<|Za Y<|Z0<|Zn [3,5,4] ?_;refine Ab (e':=[(3,_),(5,_)]) (by exact ⟨k+1,_,_,rfl,⟨by omega,by rw [LB];exact hrq⟩,rfl,rfl⟩)
 have ek:M=k:=by omega
 subst ek;refine Ar<|Zt<|Zt<|AO<|Zx<|Zq<|Zg<|Za Y<|Z0<|Zx<|Zq<|Zq<|Zg<|Za Y<|Z0<|Zx<|AQ<|Bd ?_;refine Zb [6,7,3] ?_;refine Az (e0:=[(6,_),(7,_)]) (fun m e H=>∃(i:Nat) (v:Value) (sv:List AR),m=8 -i∧(i≤8∧Row 5 v ((((FL M h0 (EA l)).list.take i).flatMap JJ).map u8v) sv)∧e=[(6,v),(7,I4 (i:Int))]∧H=[sv]) (by exact ⟨0,_,[],rfl,⟨tX _,IR _⟩,rfl,rfl⟩) Wp ?_;rintro _ _ _ ⟨i,v,sv,rfl,⟨hi,hro⟩,rfl,rfl⟩;obtain ⟨gv,cv,rfl⟩:=hro.form;have htl:((FL M h0 (EA l)).list.take i).length≤i:=xR ..
 refine Zq<|Zq<|Zg<|Zm Y<|Zv (Aq (n:=8) Y Y)<|Z0<|Zx ?_;refine Ao Y (fun hi8=>?_) (fun hi8=>?_)
 ·
  refine AC<|Zx<|Zq<|AQ<|BI (n:=27) (0::0::0::6::14::30::62::0::0::384::896::1920::3968::0::0::24576::57344::122880::253952::0::0::1572864::3670016::7864320::16777214::33554431::67108863::[]) 50331648 (by kernel_rfl) (by kernel_rfl) rfl ?_;refine Zi 1 0 rfl (AJ Y)<|Zi 3 1 rfl (AJ Y)<|Zi 7 2 rfl (AJ Y) ?_;refine Zi 15 3 rfl (BA underlying228 sizeOf227 Y Y (by omega)) ?_;refine Zj 31 4 rfl isAgg227 Y (hv:=by exact Fw htkh i (by omega)) ?_;refine Zi 63 5 rfl (F6 (n:=24) Y Y (by omega)) ?_;refine Zi 127 6 rfl (Fb underlying227 underlying5 Y)<|Zi 255 7 rfl (AJ Y)<|Zi 511 8 rfl (AJ Y) ?_;refine Zi 1023 9 rfl (BA underlying228 sizeOf227 Y Y (by omega)) ?_;refine Zj 2047 10 rfl isAgg227 Y (hv:=by exact Fw htkh i (by omega)) ?_;refine Zi 4095 11 rfl (F6 (n:=16) Y Y (by omega)) ?_;refine Zi 8191 12 rfl (Fb underlying227 underlying5 Y)<|Zi 16383 13 rfl (AJ Y)<|Zi 32767 14 rfl (AJ Y) ?_;refine Zi 65535 15 rfl (BA underlying228 sizeOf227 Y Y (by omega)) ?_;refine Zj 131071 16 rfl isAgg227 Y (hv:=by exact Fw htkh i (by omega)) ?_;refine Zi 262143 17 rfl (F6 (n:=8) Y Y (by omega)) ?_;refine Zi 524287 18 rfl (Fb underlying227 underlying5 Y)<|Zi 1048575 19 rfl (AJ Y)<|Zi 2097151 20 rfl (AJ Y) ?_;refine Zi 4194303 21 rfl (BA underlying228 sizeOf227 Y Y (by omega)) ?_;refine Zj 8388607 22 rfl isAgg227 Y (hv:=by exact Fw htkh i (by omega)) ?_;refine Zi 16777215 23 rfl (Fb underlying227 underlying5 Y)<|Zz (l:=[24]) ?_;refine Zy 16777214 33554431 [22,16,10,4] [false,false,false,false] [] rfl Y rfl rfl rfl rfl (Ae (vs:=[_,_,_,_]) (cs:=[_,_,_,_]) underlying124 sizeOf5 zeroValue5 Y rfl rfl rfl rfl rfl) ?hk_4 (fun _ _ h=>h.elim) ?hl_4
  case hk_4=>
   rintro _ _ ⟨g4,rfl,rfl⟩;refine ⟨Ad,?_⟩;refine Yw 25 67108863 rfl (Dq (by_:=1) (news:=[_,_,_,_]) underlying124 (rfl:Tryz.prog.info? 5=some Tryz.t5) rfl rfl rfl rfl Y hro Y Wo Wh (by rfl) rfl (by simp [Value.oneCell']) (by decide) (by(simp only [tJ,QX];omega)) (by(simp only [tJ,QX];omega))) ?_;rintro _ _ ⟨sw,hrw,rfl⟩;obtain ⟨gw,cw,rfl⟩:=hrw.form;refine Zi 134217727 26 rfl (Ay Y)<|Am ?_;refine Zn [3,6,7] ?_;refine A8<|Zx<|Zg<|Zm Y<|Ya (n:=1) Y Y<|Za Y<|Z0<|Zn [6,7,3] ?_;refine Ab (e':=[(6,_),(7,_)]) (by exact ⟨i+1,_,_,rfl,⟨by omega,by rw [cB (FL M h0 (EA l)).list i (show i<8 by omega)];exact hrw⟩,rfl,rfl⟩)
  exact Aw
 have ei:i=8:=by omega
 subst ei;obtain ⟨go,capo,curo,zo,hvo,rfl,hleo,hcmo,hcso,htko,hfro⟩:=hro.some (by rw [tJ,QX];show 0<4*8;decide);injection hvo with e1 e2 e3
 subst e1 e3;refine Ar<|Zt<|Zt<|AO<|Zx<|Zq<|Zg<|Zm Y<|Zo Wh (D5 underlying124 underlying5 underlying9 Y (by exact ⟨htko,by simp⟩)) ?_;refine Za Y<|Z0<|Zx<|A9 ?_;refine AB rfl results93 Y (by exact ⟨by rw [ZJ l M hM];rfl,rfl⟩)
theorem Va(h r:List UInt8)(hlen:h.length+r.length≤140737488354999):Av Tryz.prog 136 #[.string (str h),.string (str r)] [] (.string (str (Me h r))):=by
 have hh:=Ba h;have hr:=Ba r
 refine Io func136 rfl ntmps136 rfl ?_;intro u R;have e2:(⟨#[2]⟩:ByteArray)=str [2]:=rfl
 refine Zb [0,1] ?_;refine Zq<|Zg<|Za Y<|Z0<|Zx<|Zq<|Zg<|Zm Y ?_;refine BM (Dc Y Y (by rw [e2,Ba,Ba];simp;omega)) ?_;refine Zm Y ?_;refine BM (Dc Y Y (by rw [e2,E8,Ba,Ba];simp;omega)) ?_;rw [e2,E8,E8];refine Xr [_] Y call93 Y rfl (LW ([2]++h++r) (by simp;omega)) ?_;refine Za Y<|Z0<|Zx<|A9 ?_;refine AB rfl results136 Y (by exact ⟨by simp [Me],rfl⟩)
theorem oN(n:Nat):zz (n:Int)=2*n:=by unfold zz;rw [if_neg (by omega)];omega
theorem ay(n:Nat)(h2:n≤4611686018427387903):Av Tryz.prog 225 #[I4 (n:Int)] [] (.int .u64 ((zz (n:Int):Nat):Int)):=by
 refine Se func225 ntmps225 [0] ?_;intro u R;refine Zq<|Zg<|Za Y<|Z0<|Zx<|Zq<|Zq<|Zg<|Zm Y<|Zv (Aq (n:=0) Y Y)<|Z0<|Zx ?_;refine Ao Y (fun hc1=>?_) (fun hc1=>?_)
 ·
  exfalso;omega
 refine AC<|Zx<|Zq<|Zg<|Zm Y ?_;refine BM (Iu underlying3 underlying254 Y (by omega)) ?_;refine BM (M0 (n:=2) Y Y (by omega)) ?_;refine Za Y<|Z0<|Zx<|A9 ?_;refine AB rfl results225 Y (by exact ⟨by rw [oN];congr 1;omega,rfl⟩)
theorem oM(m:Nat)(h:0<m):zz (-(m:Int))=2*m -1:=by unfold zz;rw [if_pos (by omega)];omega
def putE(n:Int):Int:=if n< -4611686018427387903 then 10 else 0
theorem gu(m:Nat)(h0:0<m)(h2:m≤4611686018427387903):Av Tryz.prog 225 #[I4 (-(m:Int))] [] (.int .u64 ((zz (-(m:Int)):Nat):Int)):=by
 refine Se func225 ntmps225 [0] ?_;intro u R;refine Zq<|Zg<|Za Y<|Z0<|Zx<|Zq<|Zq<|Zg<|Zm Y<|Zv (Eb Y Y)<|Z0<|Zx ?_;refine Ao Y (fun hc1=>?_) (fun hc1=>?_)
 ·
  refine Zq<|Zg<|Zm Y<|JX (TJ (c:=(m:Int)) Y (by rw [IntKind.wrap_i64];omega)) rfl rfl ?_;refine BM (Iu underlying3 underlying254 Y (by omega)) ?_;refine BM (M0 (n:=2) Y Y (by omega)) ?_
  (refine BM (Lv (n:=1) Y Y ?_ ?_) ?_;(focus (omega));(focus (omega)))
  refine Za Y<|Z0<|Zx<|A9<|Zt ?_;refine AB rfl results225 Y (by exact ⟨by rw [oM m h0];congr 1;omega,rfl⟩)
 exfalso;omega
theorem qR(n:Int)(h1:-4611686018427387903≤n)(h2:n≤4611686018427387903):Av Tryz.prog 225 #[I4 n] [] (.int .u64 ((zz n:Nat):Int)):=by
 by_cases h:n<0
 · obtain ⟨m,rfl⟩:∃m:Nat,n=-(m:Int):=⟨n.natAbs,by omega⟩
   exact gu m (by omega) (by omega)
 · obtain ⟨m,rfl⟩:∃m:Nat,n=(m:Int):=⟨n.natAbs,by omega⟩
   exact ay m (by omega)
theorem VL(n:Int)(h1:-4611686018427387903≤n)(h2:n≤4611686018427387903):Av Tryz.prog 153 #[I4 n] [] (.tuple #[.string (str (L6 n)),I4 0]):=by
 have hml:=mL;have hzl:=fO n (by omega) (by omega)
 have hgl:=GR n (by omega) (by omega);unfold L6 at hgl;rw [tJ]at hgl;refine Se func153 ntmps153 [0] ?_;intro u R;refine Zq<|Zg<|Za Y<|Za Y<|Z0<|Zx<|Zq<|Zq<|Zg<|Zm Y<|Zv (Eb Y Y)<|Zm Y ?_;refine Aj (t:=8) Y rfl (fun hc1=>?_) (fun hc1=>?_)
 ·
  exfalso;omega
 refine Zf Y Y<|Yg (Es Y Y)<|Zv (AA Y Y)<|Z0<|Zx ?_;refine Ao Y (fun hc2=>?_) (fun hc2=>?_)
 ·
  exfalso;omega
 refine AC<|Zx<|Zq<|Zg<|Zm Y<|Xr [_] Y call225 Y rfl (qR n h1 h2) ?_;refine Za Y<|Z0<|Zx<|Zq<|Zg<|Za Y<|Z0<|Zx<|Zq<|AQ<|Bd ?_;refine Zb [4,5] ?_;refine Az (e0:=[(4,_),(5,_)]) (fun m e H=>∃(pre:List (Nat×Bool)) (y:Nat) (v:Value) (sv:List AR),m=0+y∧(MW (zz n)=pre++MW y∧y<9223372036854775808∧Row 5 v ((pre.map gb).map u8v) sv)∧e=[(4,.int .u64 (y:Int)),(5,v)]∧H=[sv]) (by exact ⟨[],zz n,_,[],rfl,⟨rfl,hzl,IR _⟩,rfl,rfl⟩) Wp ?_;rintro _ _ _ ⟨pre,y,v,sv,rfl,⟨hsp,hy,hrv⟩,rfl,rfl⟩;have hpl:=congrArg List.length hsp
 rw [tK,H5 y,tY]at hpl;obtain ⟨gv,cv,rfl⟩:=hrv.form;refine Zq<|Zq<|Zg<|Zm Y<|Zv (FR (n:=128) Y Y)<|Z0<|Zx ?_;refine Ao Y (fun hge=>?_) (fun hge=>?_)
 ·
  refine AC<|Zx<|AQ<|Zq<|Zg<|Zm Y<|Zm Y<|JX (TH (m:=(y:Int)) (n:=128) (c:=((y%128:Nat):Int)) Y Y (by decide) (by rw [zT (by omega)];rfl)) rfl rfl ?_;refine BM (Rh (n:=128) Y Y (by omega)) ?_;refine BM (JW underlying254 underlying5 Y (by omega)) ?_;refine Ze (Ae (vs:=[_]) (cs:=[_]) underlying124 sizeOf5 zeroValue5 Y rfl rfl rfl rfl rfl) ?_;rintro _ _ ⟨b1,rfl,rfl⟩;refine Ze (Dq (by_:=1) (news:=[_]) underlying124 (rfl:Tryz.prog.info? 5=some Tryz.t5) rfl rfl rfl rfl Y hrv Y Wo Wh (by rfl) rfl (by simp [Value.oneCell']) (by decide) (by(simp only [tJ];omega)) (by(simp only [tJ];omega))) ?_;rintro _ _ ⟨sq,hrq,rfl⟩;obtain ⟨gq,cq,rfl⟩:=hrq.form;refine Za Y<|Z0<|Zx<|Zg<|Zm Y<|JX (TI (m:=(y:Int)) (n:=128) (c:=((y/128:Nat):Int)) Y Y (by decide) (by rw [zS (by omega),IntKind.wrap_u64];omega)) rfl rfl ?_;refine Za Y<|Z0<|Zn [4,5] ?_;refine A8<|Zn [4,5] ?_;refine Ab (e':=[(4,_),(5,_)]) (by
   exact ⟨pre++[(y%128,false)],y/128,_,_,rfl,⟨by rw [hsp,H5 y,if_neg (by omega),decide_eq_false (by omega)];simp,by omega,by
    have hgv:=YL (y%128,false) (AA3 _ (by decide));rw [uK,uK,vM,vM,hgv];exact hrq⟩,rfl,rfl⟩)
 have hfin:(MW (zz n)).map gb=pre.map gb++[gb (y,true)]:=by rw [hsp,H5 y,if_pos (by omega),decide_eq_true (by omega),xJ (by omega)];simp
 have hgv:=YL (y,true) (by show y<128;omega);refine Ar<|Zt<|Zt<|AO<|Zx<|Zq<|Zg<|Zm Y<|Zm Y ?_;refine BM (JW underlying254 underlying5 Y (by omega)) ?_;refine Ze (Ae (vs:=[_]) (cs:=[_]) underlying124 sizeOf5 zeroValue5 Y rfl rfl rfl rfl rfl) ?_;rintro _ _ ⟨b3,rfl,rfl⟩;refine Ze (Dq (by_:=1) (news:=[_]) underlying124 (rfl:Tryz.prog.info? 5=some Tryz.t5) rfl rfl rfl rfl Y hrv Y Wo Wh (by rfl) rfl (by simp [Value.oneCell']) (by decide) (by(simp only [tJ];omega)) (by(simp only [tJ];omega))) ?_;rintro _ _ ⟨sw,hrw,rfl⟩;obtain ⟨gw,cw,rfl⟩:=hrw.form;have e9:List.map u8v (List.map gb pre)++[Value.int .u8 (y:Int)]=(L6 n).map u8v:=by
  unfold L6;rw [hfin,uK,vM,hgv];rfl
 rw [e9]at hrw⊢;obtain ⟨g9,c9,cur9,z9,hv9,rfl,hle9,hcm9,hcs9,htk9,hfr9⟩:=hrw.some (by rw [tJ];exact Wx _);rw [hv9];refine Zo Wh (D5 underlying124 underlying5 underlying9 Y (by exact ⟨htk9,by simp⟩)) ?_;refine Za Y<|Za Y<|Z0<|Zx<|A9 ?_;refine Da rfl results153 Y Y (by exact ⟨rfl,rfl⟩)
theorem mE(n:Nat)(h1:2≤n)(h2:n≤1000000000000):Av Tryz.prog 213 #[I4 (n:Int)] [] (I4 ((Bq n:Nat):Int)):=by
 refine Se func213 ntmps213 [0] ?_;intro u R;refine Zq<|Zg<|Za Y<|Z0<|Zx<|Zq<|Zg<|Za Y<|Z0<|Zx<|Zq<|AQ<|Zb [3,0] ?_;refine Az (e0:=[(3,_)]) (fun m e H=>∃(x9 k:Nat),m=n -k∧(k=2^x9∧0<k∧k<n)∧e=[(3,I4 (k:Int))]∧H=[]) (by exact ⟨0,1,rfl,⟨rfl,by omega,by omega⟩,rfl,rfl⟩) Wp ?_;rintro _ _ _ ⟨x9,k,rfl,⟨he,hk0,hk⟩,rfl,rfl⟩;refine Zq<|Zq<|Zg<|Zm Y<|Zm Y<|Zm Y ?_
 (refine BM (Bg Y Y ?_ ?_) ?_;(focus (first|omega|(simp;omega)));(focus (first|omega|(simp;omega))))
 refine Zv (Aq Y Y)<|Z0<|Zx ?_;refine Ao Y (fun hlt=>?_) (fun hlt=>?_)
 ·
  refine AC<|Zx<|AQ<|Zg<|Zm Y ?_;refine BM (Cz (m:=2) Y Y (by first|omega|(simp;omega))) ?_;refine Za Y<|Z0<|A8<|Zn [3,0] ?_;refine Ab (e':=[(3,_)]) (by exact ⟨x9+1,2*k,rfl,⟨by rw [yB,he];omega,by omega,by omega⟩,rfl,rfl⟩)
 have hl:Bq n=k:=by rw [he];exact ZZ (by rw [←he];exact hk) (by rw [yB,←he];omega)
 refine Ar<|Zt<|Zt<|AO<|Zx<|Zq<|Zg<|Zm Y<|Za Y<|Z0<|Zx<|A9 ?_;refine AB rfl results213 Y (by exact ⟨by rw [hl],rfl⟩)
theorem mF(s:Bs)(hs:s.length≤140737488354000):Av Tryz.prog 216 #[.string (str s)] [] (.string (str (M4 s))):=by
 refine Se func216 ntmps216 [0] ?_;intro u R;refine Zq<|Zg<|Za Y<|Z0<|Zx<|Zq<|Zg<|Zm Y ?_;refine BM (Dc Y Y (by(rw [Ba];show 1+_≤_;omega))) ?_;refine Xr [_] Y call93 Y rfl ((E8 [0] s)▸LW ([0]++s) (by rw [tK];simp;omega)) ?_;refine Za Y<|Z0<|Zx<|A9 ?_;refine AB rfl results216 Y (by exact ⟨rfl,rfl⟩)
theorem mD(a b:Bs)(ha:a.length≤1000000000)(hb:b.length≤1000000000):Av Tryz.prog 217 #[.string (str a),.string (str b)] [] (.string (str (GA a b))):=by
 refine Se func217 ntmps217 [0,1] ?_;intro u R;refine Zq<|Zg<|Za Y<|Z0<|Zx<|Zq<|Zg<|Zm Y ?_;refine BM (Dc Y Y (by(show 1+_≤_;rw [Ba];omega))) ?_;refine Zm Y ?_;refine BM (Dc Y Y (by(show(str [1]++str a).size+(str b).size≤_;rw [E8,Ba,Ba,tK];simp;omega))) ?_;refine Xr [_] Y call93 Y rfl ((by have h:=LW ([1]++a++b) (by rw [tK,tK];simp;omega);rw [←E8,←E8]at h;exact h:Av Tryz.prog 93 #[.string (str [1]++str a++str b)] [] (.string (str (sha ([1]++a++b)))))) ?_;refine Za Y<|Z0<|Zx<|A9 ?_;refine AB rfl results217 Y (by exact ⟨rfl,rfl⟩)
theorem NE(n:Nat)(IH:∀{M:List AR} {v:Value} {l:List Bs},l.length<n→Dn M v l→l.length≤1000000→(∀s∈l,s.length≤140737488354000)→Av Tryz.prog 133 #[v] [M] (.string (str (Cq l)))){M:List AR}{v:Value}{ls:List Bs}(hl9:ls.length=n)(hv:Dn M v ls)(hn:ls.length≤1000000)(hs:∀s∈ls,s.length≤140737488354000):Av Tryz.prog 133 #[v] [M] (.string (str (Cq ls))):=by
 have hml:=mL;obtain ⟨p,cap,rfl,hl,hg⟩:=id hv;refine Se func133 ntmps133 [0] ?_;intro u R;refine Zq<|Zg<|Za Y<|Z0<|Zx<|Zq<|Zq<|Zg<|Zm Y<|Zv (AV underlying47 Y)<|Zv (C8 (n:=0) Y Y)<|Z0<|Zx ?_;refine Ao Y (fun h0=>?_) (fun h0=>?_)
 ·
  have e1:ls=[]:=uf h0;refine Zq<|Zg<|Xr [_] Y call93 Y rfl (LW [] (by simp)) ?_;refine Za Y<|Z0<|Zx<|A9<|Zt ?_;refine AB rfl results133 Y (by exact ⟨by rw [e1,VR],rfl⟩)
 refine AC<|Zx<|Zq<|Zq<|Zg<|Zm Y<|Zv (AV underlying47 Y)<|Zv (C8 (n:=1) Y Y)<|Z0<|Zx ?_;refine Ao Y (fun h1=>?_) (fun h1=>?_)
 ·
  obtain ⟨x,rfl⟩:∃x,ls=[x]:=by
   match ls,h1 with
   |[x],_=>exact ⟨x,rfl⟩
  obtain ⟨g,off,cur,T,zz,rfl,hm9,hex9⟩:=hg 0 x rfl;have hsx:=hs x (by simp)
  refine Zq<|Zg<|Zm Y ?_;refine BM (BS (j:=0) underlying47 sizeOf9 Y Y (by first|omega|decide|(simp;done))) ?_;refine Cf (cs:=[(g,.cells cur T zz)]) (by simp [hm9]) (Bf isAgg9 Y (by exact hex9)) rfl rfl ?_;refine Xr [_] Y call216 Y rfl (mF x hsx) ?_;refine Za Y<|Z0<|Zx<|A9<|Zt ?_;refine AB rfl results133 Y (by exact ⟨by rw [QA],rfl⟩)
 have h9:2≤ls.length:=by omega
 have hk1:=IY h9;have hk2:=Hu ls.length
 have hlt2:(ls.take (Bq ls.length)).length=Bq ls.length:=by rw [tL];omega
 obtain ⟨g8,off8,cur8,T8,zz8,rfl,hm8,hc8⟩:=hg 0 _ (tF (by omega));have hvt:=hv.take (Bq ls.length) (by omega)
 have hvd:=hv.drop (Bq ls.length) hk1;refine AC<|Zx<|Zq<|Zg<|Zm Y<|Zv (AV underlying47 Y)<|Xr [_] Y call213 Y rfl (mE ls.length h9 (by omega)) ?_;refine Za Y<|Z0<|Zx<|Zq<|BI (n:=10) (0::0::3::7::0::0::48::127::255::511::[]) 392 (by kernel_rfl) (by kernel_rfl) rfl ?_;refine Zi 1 0 rfl (AJ Y)<|Zi 3 1 rfl (AJ Y) ?_;refine Zi 7 2 rfl (Bc underlying47 sizeOf9 Y Y (by omega)) ?_;refine Zi 23 4 rfl (AJ Y)<|Zi 55 5 rfl (AJ Y) ?_
 (refine EF (D':=119) 6 (IK underlying47 sizeOf9 Y Y ?_ ?_) ?_;(focus (omega));(focus (omega)))
 refine Yw 3 127 rfl (Zu [_] Y call133 Y rfl (IH (l:=ls.take (Bq ls.length)) (by rw [hlt2];omega) (by exact hvt) (by rw [hlt2];omega) (fun s h=>hs s (vD h)))) ?_;rintro _ _ ⟨rfl,rfl⟩;refine Yw 7 255 rfl (Zu [_] Y call133 Y rfl (IH (l:=ls.drop (Bq ls.length)) (by rw [tN];omega) (by exact hvd) (by rw [tN];omega) (fun s h=>hs s (vC h)))) ?_;rintro _ _ ⟨rfl,rfl⟩;refine Yw 8 511 rfl (Zu [_,_] Y call217 Y rfl (mD _ _ (by rw [Ei];omega) (by rw [Ei];omega))) ?_;rintro _ _ ⟨rfl,rfl⟩;refine Zi 1023 9 rfl (Ay Y)<|Am ?_;refine Zn [2] ?_;refine Zx<|A9 ?_;refine AB rfl results133 Y (by exact ⟨by rw [LX h9],rfl⟩)
theorem UI:∀(n:Nat) {M:List AR} {v:Value} {ls:List Bs},ls.length≤n→Dn M v ls→ls.length≤1000000→(∀s∈ls,s.length≤140737488354000)→Av Tryz.prog 133 #[v] [M] (.string (str (Cq ls)))
 |0,_,_,ls,h,hv,hn,hs=>NE ls.length (fun h9=>absurd h9 (by omega)) rfl hv hn hs
 |n+1,_,_,ls,h,hv,hn,hs=>NE ls.length (fun h9 hv2 hn2 hs2=>UI n (by omega) hv2 hn2 hs2) rfl hv hn hs
theorem QE(g off cap:Nat)(cur:Array Value)(T:TypeId)(z:Nat×Nat)(ls:List Int)(hin:Gt cur off ls)(hn:ls.length≤1073741824)(hr:∀n∈ls,-4611686018427387903≤n∧n≤4611686018427387903):
 Av Tryz.prog 218 #[.slice (some ⟨g,off,none⟩) ls.length cap] [[(g,.cells cur T z)]] (.string (str (CU ls))):=by
 have hml:=mL;refine Se func218 ntmps218 [0] ?_;intro u R;refine Zq<|Zg<|Za Y<|Z0<|Zx<|Zq<|Zg<|Za Y<|Z0<|Zx<|Zq<|Zq<|Zg<|Za Y<|Z0<|Zx<|AQ<|Zb [3,4,0] ?_;refine Az (e0:=[(3,_),(4,_)]) (fun m e H=>∃(i:Nat),m=ls.length -i∧(i≤ls.length)∧e=[(3,.string (str (CU (ls.take i)))),(4,I4 (i:Int))]∧H=[]) (by exact ⟨0,rfl,tX _,rfl,rfl⟩) Wp ?_;rintro _ _ _ ⟨i,rfl,hi,rfl,rfl⟩;refine Zq<|Zq<|Zg<|Zm Y<|Zm Y<|Zv (AV underlying210 Y)<|Zv (Aq Y Y)<|Z0<|Zx ?_;refine Ao Y (fun hlt=>?_) (fun hlt=>?_)
 ·
  obtain ⟨x,hx⟩:∃x,ls[i]?=some x:=⟨_,tF hlt⟩;have hxr:=hr x (tV hx)
  have htk:ls.take (i+1)=ls.take i++[x]:=by rw [vK,hx];rfl
  have hpl:=Cv (ls.take i) (fun m hm=>hr m (vD hm));have htl:(ls.take i).length≤i:=xR ..
  have hel:=GR x hxr.1 hxr.2;refine AC<|Zx<|Zq<|AQ<|Zq<|Zg<|Zm Y<|Zm Y ?_;refine BM (BS underlying210 sizeOf3 Y Y (by omega)) ?_;refine Zl isAgg3 Y (hv:=by exact hin i x hx) ?_;refine Xr [_] Y call153 Y rfl (VL x hxr.1 hxr.2) ?_;refine Zm Y<|Zd Y rfl<|Zd Y rfl<|Za Y<|Za Y<|Z0<|Zn [0,3,4,5] ?_;refine Zx<|Zg<|Zm Y<|Zm Y ?_;refine BM (Dc Y Y (by rw [Ba,Ba];omega)) ?_;refine Za Y<|Z0<|A8<|Zx<|Zg<|Zm Y<|Ya (n:=1) Y Y<|Za Y<|Z0<|Zn [3,4,0] ?_;refine Ab (e':=[(3,_),(4,_)]) (by exact ⟨i+1,rfl,by omega,by rw [htk,Oj,←E8],rfl⟩)
 refine Ar<|Zt<|Zt<|AO<|Zx<|Zq<|Zg<|Zm Y<|Za Y<|Z0<|Zx<|A9 ?_;refine AB rfl results218 Y (by exact ⟨by rw [uN (by omega)],rfl⟩)
theorem dW(a b c d e:Int):Gt #[I4 a,I4 b,I4 c,I4 d,I4 e] 0 [a,b,c,d,e]:=by
 intro i n h;rcases i with _|_|_|_|_|i
 all_goals first|(simp at h;subst h;rfl)|(simp at h)
theorem iF{r:AP}(h:r.ok):∀n∈[r.t,r.k,r.v.a,r.v.b,r.v.c],-4611686018427387903≤n∧n≤4611686018427387903:=by
 intro n hn;have h1:=(N9 h).1
 have h2:=(N9 h).2;simp only [uI,vT,or_false]at hn h1 h2;rcases hn with rfl|rfl|rfl|rfl|rfl
 · exact h1 _ (.inl rfl)
 · exact h1 _ (.inr rfl)
 · exact h2 _ (.inl rfl)
 · exact h2 _ (.inr (.inl rfl))
 · exact h2 _ (.inr (.inr rfl))
theorem Ww(r:AP):CU [r.t,r.k,r.v.a,r.v.b,r.v.c]=J4 r:=by simp [J4,CU]
theorem bL(r:AP)(hr:r.ok):Av Tryz.prog 154 #[.agg #[I4 r.t,I4 r.k,I4 r.v.a,I4 r.v.b,I4 r.v.c]] [] (.tuple #[.string (str (J4 r)),I4 0]):=by
 refine Se func154 ntmps154 [0] ?_;intro u R;refine Zq<|Zg<|Ze (Bx #[_,_,_,_,_]) ?_;rintro _ _ ⟨b1,rfl,rfl⟩;refine Za Y<|Za Y<|Z0<|Zx<|Zq<|Zq<|Zg<|Zo Wh (Pa #[_,_,_,_,_] isAgg113 sizeOf113 Y) ?_;refine Xr [_] Y call224 Y rfl (ND r) ?_;rw [decide_eq_true hr];refine Zv (Ca Y)<|Z0<|Zx ?_;refine Af Y (fun hv=>?_) (fun hv=>?_)
 ·
  cases hv
 refine AC<|Zx<|Zq<|Zg<|Zh 0 underlying113 rfl rfl sizeOf3 Y<|Zl isAgg3 Y ?_;refine Zh 1 underlying113 rfl rfl sizeOf3 Y<|Zl isAgg3 Y ?_;refine Zh 2 underlying113 rfl rfl sizeOf75 Y ?_;refine BM (CR (j:=0) underlying75 sizeOf3 Y Y (by first|omega|decide|(simp;done))) ?_;refine Zl isAgg3 Y ?_;refine Zh 2 underlying113 rfl rfl sizeOf75 Y ?_;refine BM (CR (j:=1) underlying75 sizeOf3 Y Y (by first|omega|decide|(simp;done))) ?_;refine Zl isAgg3 Y ?_;refine Zh 2 underlying113 rfl rfl sizeOf75 Y ?_;refine BM (CR (j:=2) underlying75 sizeOf3 Y Y (by first|omega|decide|(simp;done))) ?_;refine Zl isAgg3 Y ?_;refine Ze (Ae (vs:=[_,_,_,_,_]) (cs:=[_,_,_,_,_]) underlying210 sizeOf3 zeroValue3 Y rfl rfl rfl rfl rfl) ?_;rintro _ _ ⟨gb,rfl,rfl⟩;refine Xr [_] Y call218 Y rfl (QE gb 0 5 _ _ _ [r.t,r.k,r.v.a,r.v.b,r.v.c] (dW r.t r.k r.v.a r.v.b r.v.c) (by simp) (iF hr)) ?_;refine Za Y<|Za Y<|Z0<|Zn [2,3] ?_;refine Zx<|A9 ?_;refine Da rfl results154 Y Y (by exact ⟨by rw [Ww],rfl⟩)
theorem Vi{M:List AR}{v:Value}{L:List AP}(hv:DV M v L)(hn:L.length≤1000000)(hok:∀r∈L,r.ok):CO Tryz.prog 127 #[v] [M] (fun r H'=>∃se,BX 1 9 r L.length ((Js L).map Dx) se∧H'=[se,M]):=by
 have hml:=mL;obtain ⟨p,cap,rfl,hl,hg⟩:=hv;refine Se func127 ntmps127 [0] ?_;intro u R;refine Zq<|Zg<|Za Y<|Z0<|Zx<|Zq<|Zg<|Za Y<|Z0<|Zx<|Zq<|Zq<|Zg<|Za Y<|Z0<|Zx<|AQ<|Bd ?_;refine Zb [3,4,0] ?_;refine Az (e0:=[(3,_),(4,_)]) (fun m e H=>∃(i:Nat) (ve:Value) (se:List AR),m=L.length -i∧(i≤L.length∧BX 1 9 ve i ((Js (L.take i)).map Dx) se)∧e=[(3,ve),(4,I4 (i:Int))]∧H=[se]) (by exact ⟨0,.slice none 0 0,[],rfl,⟨tX _,BV 1 _⟩,rfl,rfl⟩) Wp ?_;rintro _ _ _ ⟨i,ve,se,rfl,⟨hi,hre⟩,rfl,rfl⟩;obtain ⟨qe,ce,rfl⟩:=hre.form;refine Zq<|Zq<|Zg<|Zm Y<|Zm Y<|Zv (AV underlying45 Y)<|Zv (Aq Y Y)<|Z0<|Zx ?_;refine Ao Y (fun hlt=>?_) (fun hlt=>?_)
 ·
  obtain ⟨x,hx⟩:∃x,L[i]?=some x:=⟨_,tF hlt⟩;obtain ⟨g,off,cur,T,zz,rfl,hm9,hsz9,hex9⟩:=hg i x hx;have hxo:=hok x (tV hx)
  refine AC<|Zx<|Zq<|AQ<|Zq<|Zg<|Zm Y<|Zm Y ?_;refine BM (AU underlying45 sizeOf113 Y Y (by omega)) ?_;refine Cf (cs:=[(g,.cells cur T zz)]) (by simp [hm9]) (AX (cs:=#[I4 x.t,I4 x.k,I4 x.v.a,I4 x.v.b,I4 x.v.c]) isAgg113 sizeOf113 Y (by omega) hex9) rfl rfl ?_;refine Xr [_] Y call154 Y rfl (bL x hxo) ?_;refine Zm Y<|Zd Y rfl<|Zd Y rfl<|Za Y<|Za Y<|Z0<|Zn [0,3,4,5] ?_;refine Zx<|Zg<|Zm Y<|Zm Y<|Ze (Ae (vs:=[_]) (cs:=[_]) underlying47 sizeOf9 zeroValue9 Y rfl rfl rfl rfl rfl) ?_;rintro _ _ ⟨b1,rfl,rfl⟩;refine Ze (DF (by_:=16) (sz:=1) (news:=[_]) underlying47 (rfl:Tryz.prog.info? 9=some Tryz.t9) rfl rfl rfl rfl Y hre Y Wo Wh (by rfl) rfl (by simp [Value.oneCell']) (by decide) (by omega) (by omega)) ?_;rintro _ _ ⟨sw5,hrw5,rfl⟩;obtain ⟨gw5,cw5,rfl⟩:=hrw5.form;refine Za Y<|Z0<|A8<|Zx<|Zg<|Zm Y<|Ya (n:=1) Y Y<|Za Y<|Z0<|Zn [3,4,0] ?_;refine Ab (e':=[(3,_),(4,_)]) (by exact ⟨i+1,_,_,rfl,⟨by omega,BO hrw5 rfl (by rw [Wv hx])⟩,rfl,rfl⟩)
 have ei:i=L.length:=by omega
 subst ei;rw [uQ]at hre;refine Ar<|Zt<|Zt<|AO<|Zx<|Zq<|Zg<|Zm Y<|Za Y<|Z0<|Zx<|A9 ?_;refine AB rfl results127 Y (by exact ⟨se,hre,rfl⟩)
theorem bN(rp:Nat)(p:Int)(w:Value)(rs:List AP)(sv:List AR)(hrow:BX 5 113 w rs.length (Ac rs) sv)(hn:rs.length≤2000)(t:Int)(c:Nat)(hc:c≤3):CO Tryz.prog 126 #[I5 rp,I4 t,I4 (c:Int)] [[(rp,.cells #[w,I4 p] 182 (0,0))],sv] (fun r H'=>∃so,BX 5 113 r (BC rs t c).length (Ac (BC rs t c)) so∧H'=[so,[(rp,.cells #[w,I4 p] 182 (0,0))],sv]):=by
 refine Se func126 ntmps126 [0,1,2] ?_;intro u R;refine Zq<|Zg<|Za Y<|Z0<|Zx<|Zq<|Zg<|Zm Y<|Zm Y<|Zm Y<|Zc [_,_,_,_,_] Y call56 Y rfl (iM rp p w rs sv t c (-1000000000) 1000000000 hrow hn hc) ?_;rintro _ _ ⟨_,⟨so,hso,rfl⟩,rfl⟩;refine Za Y<|Z0<|Zx<|A9 ?_;refine AB rfl results126 Y (by exact ⟨so,hso,rfl⟩)
theorem gI{rs:List AP}{t c:Nat}(ht:t<4)(hc:c<4):(Mq rs).take (4*t+c+1)=(Mq rs).take (4*t+c)++[XP rs (t,c)]:=by
 refine Bo ?_;unfold Mq;rw [uD,gF t ht c hc];rfl
theorem iP(rp:Nat)(p:Int)(w:Value)(rs:List AP)(sv:List AR)(hrow:BX 5 113 w rs.length (Ac rs) sv)(hn:rs.length≤2000)(hs:BJ rs)(hok:∀r∈rs,r.ok):CO Tryz.prog 128 #[I5 rp] [[(rp,.cells #[w,I4 p] 182 (0,0))],sv] (fun r H'=>∃so,BX 1 9 r 16 ((Mq rs).map Dx) so∧H'=[so,[(rp,.cells #[w,I4 p] 182 (0,0))],sv]):=by
 have hml:=mL;refine Se func128 ntmps128 [0] ?_;intro u R;refine Zq<|Zg<|Za Y<|Z0<|Zx<|Zq<|Zg<|Za Y<|Z0<|Zx<|Zq<|Zq<|Zg<|Za Y<|Z0<|Zx<|AQ<|Bd ?_;refine Zb [3,4,0] ?_;refine Az (e0:=[(3,_),(4,_)]) (fun m e H=>∃(t:Nat) (vo:Value) (so:List AR),m=4 -t∧(t≤4∧BX 1 9 vo (4*t) (((Mq rs).take (4*t)).map Dx) so)∧e=[(3,vo),(4,I4 (t:Int))]∧H=[so]) (by exact ⟨0,.slice none 0 0,[],rfl,⟨by omega,BV 1 _⟩,rfl,rfl⟩) Wp ?_;rintro _ _ _ ⟨t,vo,so,rfl,⟨ht,hro⟩,rfl,rfl⟩;refine Zq<|Zq<|Zg<|Zm Y<|Zv (Aq (n:=4) Y Y)<|Z0<|Zx ?_;refine Ao Y (fun ht4=>?_) (fun ht4=>?_)
 ·
  refine AC<|Zx<|Zq<|AQ<|Zq<|Zg<|Za Y<|Z0<|Zx<|AQ<|Zb [3,5,0,4] ?_;refine Az (e0:=[(3,_),(5,_)]) (fun m e H=>∃(c:Nat) (vo2:Value) (so2:List AR),m=4 -c∧(c≤4∧BX 1 9 vo2 (4*t+c) (((Mq rs).take (4*t+c)).map Dx) so2)∧e=[(3,vo2),(5,I4 (c:Int))]∧H=[so2]) (by exact ⟨0,vo,so,rfl,⟨by omega,hro⟩,rfl,rfl⟩) Wp ?_;rintro _ _ _ ⟨c,vo2,so2,rfl,⟨hc,hro2⟩,rfl,rfl⟩;obtain ⟨qo,co,rfl⟩:=hro2.form;refine Zq<|Zq<|Zg<|Zm Y<|Zv (Aq (n:=4) Y Y)<|Z0<|Zx ?_;refine Ao Y (fun hc4=>?_) (fun hc4=>?_)
  ·
   have hol:=Ho hs (t:Int) c;refine AC<|Zx<|Zq<|AQ<|Zq<|Zg<|Zm Y<|Zm Y<|Zm Y<|Zc [_,_,_] Y call126 Y rfl (bN rp p w rs sv hrow hn (t:Int) c (by omega)) ?_;rintro _ _ ⟨_,⟨sx,hx,rfl⟩,rfl⟩;have hUx:=Dv hx (by omega)
   refine Zc [_] Y call127 Y rfl (Vi hUx (by omega) (fun r h=>hok r (Ih h))) ?_;rintro _ _ ⟨_,⟨se,he,rfl⟩,rfl⟩;obtain ⟨qe,ce,rfl⟩:=he.form;have hSe:Dn se (.slice qe (BC rs (t:Int) c).length ce) (Js (BC rs (t:Int) c)):=Fy (BO he (EQ _).symm rfl) (by rw [EQ];omega)
   have hel:=GR ((BC rs (t:Int) c).length:Int) (by omega) (by omega);refine Za Y<|Z0<|Zx<|Zq<|Zg<|Zm Y<|Zv (AV underlying47 Y)<|Xr [_] Y call153 Y rfl (VL _ (by omega) (by omega)) ?_;refine Zm Y<|Zd Y rfl<|Zd Y rfl<|Za Y<|Za Y<|Z0<|Zn [0,3,4,5,6,7] ?_;refine Zx<|Zg<|Zm Y<|Zm Y<|Zm Y<|Xr [_] Y call133 Y rfl (UI _ (tQ _) hSe (by rw [EQ];omega) (fun s h=>by have:=PV (fun r hr=>hok r (Ih hr)) s h;omega)) ?_;refine BM (Dc Y Y (by rw [Ba,Ba,Ei];omega)) ?_;refine Ze (Ae (vs:=[_]) (cs:=[_]) underlying47 sizeOf9 zeroValue9 Y rfl rfl rfl rfl rfl) ?_;rintro _ _ ⟨b1,rfl,rfl⟩;refine Ze (DF (by_:=16) (sz:=1) (news:=[_]) underlying47 (rfl:Tryz.prog.info? 9=some Tryz.t9) rfl rfl rfl rfl Y hro2 Y Wo Wh (by rfl) rfl (by simp [Value.oneCell']) (by decide) (by omega) (by omega)) ?_;rintro _ _ ⟨sw5,hrw5,rfl⟩;obtain ⟨gw5,cw5,rfl⟩:=hrw5.form;refine Za Y<|Z0<|A8<|Zx<|Zg<|Zm Y<|Ya (n:=1) Y Y<|Za Y<|Z0<|Zn [3,5,0,4] ?_;refine Ab (e':=[(3,_),(5,_)]) (by exact ⟨c+1,_,_,rfl,⟨by omega,BO hrw5 rfl (by rw [←yP,gI ht4 hc4,uK];unfold XP;rw [vM];unfold Dx;rw [←E8])⟩,rfl,rfl⟩)
  refine Ar<|Zt<|Zt<|AO<|A8<|Zx<|Zg<|Zm Y<|Ya (n:=1) Y Y<|Za Y<|Z0<|Zn [3,4,0] ?_;refine Ab (e':=[(3,_),(4,_)]) (by exact ⟨t+1,_,so2,rfl,⟨by omega,by have e4:c=4:=(by omega);subst e4;exact hro2⟩,rfl,rfl⟩)
 have e4:t=4:=by omega
 subst e4;refine Ar<|Zt<|Zt<|AO<|Zx<|Zq<|Zg<|Zm Y<|Za Y<|Z0<|Zx<|A9 ?_;refine AB rfl results128 Y (by exact ⟨so,BO hro rfl (by rw [uN (by rw [Im];omega)]),rfl⟩)
theorem Jd(rp:Nat)(p:Int)(w:Value)(rs:List AP)(sv:List AR)(hrow:BX 5 113 w rs.length (Ac rs) sv)(hn:rs.length≤2000)(hs:BJ rs)(hok:∀r∈rs,r.ok):Av Tryz.prog 66 #[I5 rp] [[(rp,.cells #[w,I4 p] 182 (0,0))],sv] (.string (str (DZ rs))):=by
 have hml:=mL;refine Se func66 ntmps66 [0] ?_;intro u R;refine Zq<|Zg<|Za Y<|Z0<|Zx<|Zq<|Zg<|Zm Y<|Zc [_] Y call128 Y rfl (iP rp p w rs sv hrow hn hs hok) ?_;rintro _ _ ⟨_,⟨so,hso,rfl⟩,rfl⟩;have hSm:=Fy (BO hso (Im rs).symm rfl) (by rw [Im];omega)
 obtain ⟨qt,ct,rfl⟩:=hso.form;refine Xr [_] Y call133 Y rfl (UI _ (tQ _) hSm (by rw [Im];omega) (fun s h=>by obtain ⟨x,_,rfl⟩:=uh.1 h;have:=VB hs hn x;omega)) ?_;refine Za Y<|Z0<|Zx<|A9 ?_;refine AB rfl results66 Y (by exact ⟨rfl,rfl⟩)
end Go.Proofs.YtkdgffcfmgmemaaGreatDoor
