/- The reference of chapter 2: Sum, Chain, Head. -/
/- The reference of layer 1: PutInt, Int, String. -/
/- The references: Left, Leaf, Node, Root; Encode; Order, Entries, Summaries. -/
/- The references: Proof of a list; Root of a state. -/
import Derived.Test.YtkdgffcfmgmemaaGreatDoorEz
import Derived.Test.YtkdgffcfmgmemaaGreatDoorRf2
import Derived.Test.YtkdgffcfmgmemaaGreatDoorTr3
import Derived.Test.YtkdgffcfmgmemaaGreatDoorTk1
import Derived.Test.YtkdgffcfmgmemaaGreatDoorTr8
set_option linter.unusedVariables false
set_option linter.unusedSimpArgs false
namespace Go.Proofs.YtkdgffcfmgmemaaGreatDoor
open Go.Proofs.Tryz
open Go Go.RowKit Gw
set_option maxRecDepth 100000
attribute [local irreducible] Gw.At Gw.Nx Gw.Ops
theorem nV(b l cap n:Nat)(h:l<cap)(e:n=64):Value.slice (EU (some ⟨b,0,none⟩) l cap 1) n (cap -l)= .slice (some ⟨b,l,none⟩) 64 (cap -l):=by
 subst e;unfold EU;rw [if_neg (by omega),vU,CY,wR,uL]
theorem dB(l:List UInt32)(i:Nat)(h:i<l.length):((l.take (i+1)).flatMap JK).map u8v=((l.take i).flatMap JK).map u8v++[.int .u8 (((l.getD i 0)>>>UInt32.ofNat 24).toUInt8.toNat:Int),.int .u8 (((l.getD i 0)>>>UInt32.ofNat 16).toUInt8.toNat:Int),.int .u8 (((l.getD i 0)>>>UInt32.ofNat 8).toUInt8.toNat:Int),.int .u8 ((l.getD i 0).toUInt8.toNat:Int)]:=by
 have e:l.take (i+1)=l.take i++[l.getD i 0]:=by
  have:=La (fun x:UInt32=>x) l i 0 h;simpa using this
 rw [e,vW,uK];rfl
theorem Qb(l:List UInt32):(l.flatMap JK).length=4*l.length:=by
 induction l with
 |nil=>rfl
 |cons a l ih=>simp only [ui,tJ,ih,tX,JK,vF];omega
theorem Le(l:List UInt8)(hs:l.length≤140737488355000):Aw Tryz.prog 93 #[.string (str l)] [] (.string (str (sha l))):=by
 have hml:=mL;obtain ⟨M,hM⟩:∃M,(EC l).length=64*M:=⟨(EC l).length/64,by have:=QT l;omega⟩;have hpl:=MR l
 have hzp:IM l.length<64:=by unfold IM;omega
 refine Se func93 ntmps93 [0] ?_;intro u R;refine Zq<|Zg<|Za Y<|Z0<|Zx<|Zq<|Zg<|Ze (Ae (vs:=[_,_,_,_,_,_,_,_]) (cs:=[_,_,_,_,_,_,_,_]) underlying228 sizeOf227 zeroValue227 Y rfl rfl rfl rfl rfl) ?_;rintro _ _ ⟨g0,rfl,rfl⟩;refine Za Y<|Z0<|Zx<|Zq<|Zg<|Zm Y<|Zc [_] Y call182 Y rfl (bK l hs) ?_;rintro _ _ ⟨_,⟨sp,hrp,rfl⟩,rfl⟩;obtain ⟨gp,capp,curp,zp,rfl,rfl,hlep,hcmp,hcsp,htkp,hfrp⟩:=hrp.some (by rw [tK];omega);rw [tK]at hlep htkp⊢;refine Za Y<|Z0<|Zx<|Zq<|Zq<|Zg<|Za Y<|Z0<|Zx<|AQ<|Zb [3,5,4] ?_;refine Az (e0:=[(3,_),(5,_)]) (fun m e H=>∃(k:Nat) (v:Value) (sv:List AR),m=M -k∧(k≤M∧Row 227 v ((FP k h0 (EC l)).list.map Bn) sv)∧e=[(3,v),(5,I4 ((64*k:Nat):Int))]∧H=[sv]) (by exact ⟨0,_,_,rfl,⟨tY _,ZQ _ g0 (h0.list.map Bn) 8 rfl (by decide)⟩,rfl,rfl⟩) Wp ?_;rintro _ _ _ ⟨k,v,sv,rfl,⟨hk,hrv⟩,rfl,rfl⟩;obtain ⟨gh,caph,curh,zh,rfl,rfl,hleh,hcmh,hcsh,htkh,hfrh⟩:=hrv.some (by show 0<8;decide);rw [show(List.map Bn (FP k h0 (EC l)).list).length=8 from rfl]at hleh⊢;refine Zq<|Zq<|Zg<|Zm Y<|Zm Y<|Zv (AU underlying124 Y)<|Zv (Aq Y Y)<|Z0<|Zx ?_;refine Ao Y (fun hlt=>?_) (fun hlt=>?_)
 ·
  refine AB<|Zx<|Zq<|AQ<|Zg<|Zm Y<|Zm Y<|Zm Y<|Zm Y<|Ya (n:=64) Y Y ?_
  (refine BM (JX underlying124 sizeOf5 Y Y Y ?_ ?_) ?_;(focus (omega));(focus (omega)))
  rw [nV gp (64*k) capp _ (by omega) (by omega)];refine Zc [_,_] Y call183 Y rfl (Vg gh caph gp (64*k) (capp -64*k) curh curp _ _ zh zp (FP k h0 (EC l)) (((EC l).drop (64*k)).take 64) htkh (PE (by rw [tK];exact htkp) k (by omega)) (by rw [tL,tN];omega)) ?_;rintro _ _ ⟨_,⟨sq,hrq,rfl⟩,rfl⟩;refine Za Y<|Z0<|A8<|Zx<|Zg<|Zm Y<|Ya (n:=64) Y Y<|Za Y<|Z0<|Zn [3,5,4] ?_;refine Ab (e':=[(3,_),(5,_)]) (by exact ⟨k+1,_,_,rfl,⟨by omega,by rw [LK];exact hrq⟩,rfl,rfl⟩)
 have ek:M=k:=by omega
 subst ek;refine Au<|Zt<|Zt<|AO<|Zx<|Zq<|Zg<|Za Y<|Z0<|Zx<|Zq<|Zq<|Zg<|Za Y<|Z0<|Zx<|AQ<|Bd ?_;refine Zb [6,7,3] ?_;refine Az (e0:=[(6,_),(7,_)]) (fun m e H=>∃(i:Nat) (v:Value) (sv:List AR),m=8 -i∧(i≤8∧Row 5 v ((((FP M h0 (EC l)).list.take i).flatMap JK).map u8v) sv)∧e=[(6,v),(7,I4 (i:Int))]∧H=[sv]) (by exact ⟨0,_,[],rfl,⟨tY _,IQ _⟩,rfl,rfl⟩) Wp ?_;rintro _ _ _ ⟨i,v,sv,rfl,⟨hi,hro⟩,rfl,rfl⟩;obtain ⟨gv,cv,rfl⟩:=hro.form;have htl:((FP M h0 (EC l)).list.take i).length≤i:=xS ..
 refine Zq<|Zq<|Zg<|Zm Y<|Zv (Aq (n:=8) Y Y)<|Z0<|Zx ?_;refine Ao Y (fun hi8=>?_) (fun hi8=>?_)
 ·
  refine AB<|Zx<|Zq<|AQ<|BJ (n:=27) (0::0::0::6::14::30::62::0::0::384::896::1920::3968::0::0::24576::57344::122880::253952::0::0::1572864::3670016::7864320::16777214::33554431::67108863::[]) 50331648 (by kernel_rfl) (by kernel_rfl) rfl ?_;refine Zi 1 0 rfl (AJ Y)<|Zi 3 1 rfl (AJ Y)<|Zi 7 2 rfl (AJ Y) ?_;refine Zi 15 3 rfl (BB underlying228 sizeOf227 Y Y (by omega)) ?_;refine Zj 31 4 rfl isAgg227 Y (hv:=by exact G6 htkh i (by omega)) ?_;refine Zi 63 5 rfl (FB (n:=24) Y Y (by omega)) ?_;refine Zi 127 6 rfl (Ff underlying227 underlying5 Y)<|Zi 255 7 rfl (AJ Y)<|Zi 511 8 rfl (AJ Y) ?_;refine Zi 1023 9 rfl (BB underlying228 sizeOf227 Y Y (by omega)) ?_;refine Zj 2047 10 rfl isAgg227 Y (hv:=by exact G6 htkh i (by omega)) ?_;refine Zi 4095 11 rfl (FB (n:=16) Y Y (by omega)) ?_;refine Zi 8191 12 rfl (Ff underlying227 underlying5 Y)<|Zi 16383 13 rfl (AJ Y)<|Zi 32767 14 rfl (AJ Y) ?_;refine Zi 65535 15 rfl (BB underlying228 sizeOf227 Y Y (by omega)) ?_;refine Zj 131071 16 rfl isAgg227 Y (hv:=by exact G6 htkh i (by omega)) ?_;refine Zi 262143 17 rfl (FB (n:=8) Y Y (by omega)) ?_;refine Zi 524287 18 rfl (Ff underlying227 underlying5 Y)<|Zi 1048575 19 rfl (AJ Y)<|Zi 2097151 20 rfl (AJ Y) ?_;refine Zi 4194303 21 rfl (BB underlying228 sizeOf227 Y Y (by omega)) ?_;refine Zj 8388607 22 rfl isAgg227 Y (hv:=by exact G6 htkh i (by omega)) ?_;refine Zi 16777215 23 rfl (Ff underlying227 underlying5 Y)<|Zz (l:=[24]) ?_;refine Zy 16777214 33554431 [22,16,10,4] [false,false,false,false] [] rfl Y rfl rfl rfl rfl (Ae (vs:=[_,_,_,_]) (cs:=[_,_,_,_]) underlying124 sizeOf5 zeroValue5 Y rfl rfl rfl rfl rfl) ?hk_4 (fun _ _ h=>h.elim) ?hl_4
  case hk_4=>
   rintro _ _ ⟨g4,rfl,rfl⟩;refine ⟨Ad,?_⟩;refine Yw 25 67108863 rfl (Du (by_:=1) (news:=[_,_,_,_]) underlying124 (rfl:Tryz.prog.info? 5=some Tryz.t5) rfl rfl rfl rfl Y hro Y Wo Wh (by rfl) rfl (by simp [Value.oneCell']) (by decide) (by(simp only [tK,Qb];omega)) (by(simp only [tK,Qb];omega))) ?_;rintro _ _ ⟨sw,hrw,rfl⟩;obtain ⟨gw,cw,rfl⟩:=hrw.form;refine Zi 134217727 26 rfl (Ay Y)<|Am ?_;refine Zn [3,6,7] ?_;refine A8<|Zx<|Zg<|Zm Y<|Ya (n:=1) Y Y<|Za Y<|Z0<|Zn [6,7,3] ?_;refine Ab (e':=[(6,_),(7,_)]) (by exact ⟨i+1,_,_,rfl,⟨by omega,by rw [dB (FP M h0 (EC l)).list i (show i<8 by omega)];exact hrw⟩,rfl,rfl⟩)
  exact Ar
 have ei:i=8:=by omega
 subst ei;obtain ⟨go,capo,curo,zo,hvo,rfl,hleo,hcmo,hcso,htko,hfro⟩:=hro.some (by rw [tK,Qb];show 0<4*8;decide);injection hvo with e1 e2 e3
 subst e1 e3;refine Au<|Zt<|Zt<|AO<|Zx<|Zq<|Zg<|Zm Y<|Zo Wh (D8 underlying124 underlying5 underlying9 Y (by exact ⟨htko,by simp⟩)) ?_;refine Za Y<|Z0<|Zx<|A9 ?_;refine AC rfl results93 Y (by exact ⟨by rw [ZO l M hM];rfl,rfl⟩)
theorem Vf(h r:List UInt8)(hlen:h.length+r.length≤140737488354999):Aw Tryz.prog 136 #[.string (str h),.string (str r)] [] (.string (str (Mj h r))):=by
 have hh:=Ba h;have hr:=Ba r
 refine Io func136 rfl ntmps136 rfl ?_;intro u R;have e2:(⟨#[2]⟩:ByteArray)=str [2]:=rfl
 refine Zb [0,1] ?_;refine Zq<|Zg<|Za Y<|Z0<|Zx<|Zq<|Zg<|Zm Y ?_;refine BM (Dh Y Y (by rw [e2,Ba,Ba];simp;omega)) ?_;refine Zm Y ?_;refine BM (Dh Y Y (by rw [e2,EA,Ba,Ba];simp;omega)) ?_;rw [e2,EA,EA];refine Xr [_] Y call93 Y rfl (Le ([2]++h++r) (by simp;omega)) ?_;refine Za Y<|Z0<|Zx<|A9 ?_;refine AC rfl results136 Y (by exact ⟨by simp [Mj],rfl⟩)
theorem oU(n:Nat):zz (n:Int)=2*n:=by unfold zz;rw [if_neg (by omega)];omega
theorem bC(n:Nat)(h2:n≤4611686018427387903):Aw Tryz.prog 225 #[I4 (n:Int)] [] (.int .u64 ((zz (n:Int):Nat):Int)):=by
 refine Se func225 ntmps225 [0] ?_;intro u R;refine Zq<|Zg<|Za Y<|Z0<|Zx<|Zq<|Zq<|Zg<|Zm Y<|Zv (Aq (n:=0) Y Y)<|Z0<|Zx ?_;refine Ao Y (fun hc1=>?_) (fun hc1=>?_)
 ·
  exfalso;omega
 refine AB<|Zx<|Zq<|Zg<|Zm Y ?_;refine BM (Iw underlying3 underlying254 Y (by omega)) ?_;refine BM (M6 (n:=2) Y Y (by omega)) ?_;refine Za Y<|Z0<|Zx<|A9 ?_;refine AC rfl results225 Y (by exact ⟨by rw [oU];congr 1;omega,rfl⟩)
theorem oQ(m:Nat)(h:0<m):zz (-(m:Int))=2*m -1:=by unfold zz;rw [if_pos (by omega)];omega
def putE(n:Int):Int:=if n< -4611686018427387903 then 10 else 0
theorem gu(m:Nat)(h0:0<m)(h2:m≤4611686018427387903):Aw Tryz.prog 225 #[I4 (-(m:Int))] [] (.int .u64 ((zz (-(m:Int)):Nat):Int)):=by
 refine Se func225 ntmps225 [0] ?_;intro u R;refine Zq<|Zg<|Za Y<|Z0<|Zx<|Zq<|Zq<|Zg<|Zm Y<|Zv (Ee Y Y)<|Z0<|Zx ?_;refine Ao Y (fun hc1=>?_) (fun hc1=>?_)
 ·
  refine Zq<|Zg<|Zm Y<|JZ (TP (c:=(m:Int)) Y (by rw [IntKind.wrap_i64];omega)) rfl rfl ?_;refine BM (Iw underlying3 underlying254 Y (by omega)) ?_;refine BM (M6 (n:=2) Y Y (by omega)) ?_
  (refine BM (M5 (n:=1) Y Y ?_ ?_) ?_;(focus (omega));(focus (omega)))
  refine Za Y<|Z0<|Zx<|A9<|Zt ?_;refine AC rfl results225 Y (by exact ⟨by rw [oQ m h0];congr 1;omega,rfl⟩)
 exfalso;omega
theorem qV(n:Int)(h1:-4611686018427387903≤n)(h2:n≤4611686018427387903):Aw Tryz.prog 225 #[I4 n] [] (.int .u64 ((zz n:Nat):Int)):=by
 by_cases h:n<0
 · obtain ⟨m,rfl⟩:∃m:Nat,n=-(m:Int):=⟨n.natAbs,by omega⟩
   exact gu m (by omega) (by omega)
 · obtain ⟨m,rfl⟩:∃m:Nat,n=(m:Int):=⟨n.natAbs,by omega⟩
   exact bC m (by omega)
theorem VP(n:Int)(h1:-4611686018427387903≤n)(h2:n≤4611686018427387903):Aw Tryz.prog 153 #[I4 n] [] (.tuple #[.string (str (LC n)),I4 0]):=by
 have hml:=mL;have hzl:=fP n (by omega) (by omega)
 have hgl:=GV n (by omega) (by omega);unfold LC at hgl;rw [tK]at hgl;refine Se func153 ntmps153 [0] ?_;intro u R;refine Zq<|Zg<|Za Y<|Za Y<|Z0<|Zx<|Zq<|Zq<|Zg<|Zm Y<|Zv (Ee Y Y)<|Zm Y ?_;refine Ai (t:=8) Y rfl (fun hc1=>?_) (fun hc1=>?_)
 ·
  exfalso;omega
 refine Zf Y Y<|Yg (Ey Y Y)<|Zv (AA Y Y)<|Z0<|Zx ?_;refine Ao Y (fun hc2=>?_) (fun hc2=>?_)
 ·
  exfalso;omega
 refine AB<|Zx<|Zq<|Zg<|Zm Y<|Xr [_] Y call225 Y rfl (qV n h1 h2) ?_;refine Za Y<|Z0<|Zx<|Zq<|Zg<|Za Y<|Z0<|Zx<|Zq<|AQ<|Bd ?_;refine Zb [4,5] ?_;refine Az (e0:=[(4,_),(5,_)]) (fun m e H=>∃(pre:List (Nat×Bool)) (y:Nat) (v:Value) (sv:List AR),m=0+y∧(Mc (zz n)=pre++Mc y∧y<9223372036854775808∧Row 5 v ((pre.map gb).map u8v) sv)∧e=[(4,.int .u64 (y:Int)),(5,v)]∧H=[sv]) (by exact ⟨[],zz n,_,[],rfl,⟨rfl,hzl,IQ _⟩,rfl,rfl⟩) Wp ?_;rintro _ _ _ ⟨pre,y,v,sv,rfl,⟨hsp,hy,hrv⟩,rfl,rfl⟩;have hpl:=congrArg List.length hsp
 rw [tJ,H5 y,tX]at hpl;obtain ⟨gv,cv,rfl⟩:=hrv.form;refine Zq<|Zq<|Zg<|Zm Y<|Zv (FW (n:=128) Y Y)<|Z0<|Zx ?_;refine Ao Y (fun hge=>?_) (fun hge=>?_)
 ·
  refine AB<|Zx<|AQ<|Zq<|Zg<|Zm Y<|Zm Y<|JZ (TM (m:=(y:Int)) (n:=128) (c:=((y%128:Nat):Int)) Y Y (by decide) (by rw [zT (by omega)];rfl)) rfl rfl ?_;refine BM (Rk (n:=128) Y Y (by omega)) ?_;refine BM (JY underlying254 underlying5 Y (by omega)) ?_;refine Ze (Ae (vs:=[_]) (cs:=[_]) underlying124 sizeOf5 zeroValue5 Y rfl rfl rfl rfl rfl) ?_;rintro _ _ ⟨b1,rfl,rfl⟩;refine Ze (Du (by_:=1) (news:=[_]) underlying124 (rfl:Tryz.prog.info? 5=some Tryz.t5) rfl rfl rfl rfl Y hrv Y Wo Wh (by rfl) rfl (by simp [Value.oneCell']) (by decide) (by(simp only [tK];omega)) (by(simp only [tK];omega))) ?_;rintro _ _ ⟨sq,hrq,rfl⟩;obtain ⟨gq,cq,rfl⟩:=hrq.form;refine Za Y<|Z0<|Zx<|Zg<|Zm Y<|JZ (TN (m:=(y:Int)) (n:=128) (c:=((y/128:Nat):Int)) Y Y (by decide) (by rw [zS (by omega),IntKind.wrap_u64];omega)) rfl rfl ?_;refine Za Y<|Z0<|Zn [4,5] ?_;refine A8<|Zn [4,5] ?_;refine Ab (e':=[(4,_),(5,_)]) (by
   exact ⟨pre++[(y%128,false)],y/128,_,_,rfl,⟨by rw [hsp,H5 y,if_neg (by omega),decide_eq_false (by omega)];simp,by omega,by
    have hgv:=YK (y%128,false) (AA3 _ (by decide));rw [uK,uK,vM,vM,hgv];exact hrq⟩,rfl,rfl⟩)
 have hfin:(Mc (zz n)).map gb=pre.map gb++[gb (y,true)]:=by rw [hsp,H5 y,if_pos (by omega),decide_eq_true (by omega),xJ (by omega)];simp
 have hgv:=YK (y,true) (by show y<128;omega);refine Au<|Zt<|Zt<|AO<|Zx<|Zq<|Zg<|Zm Y<|Zm Y ?_;refine BM (JY underlying254 underlying5 Y (by omega)) ?_;refine Ze (Ae (vs:=[_]) (cs:=[_]) underlying124 sizeOf5 zeroValue5 Y rfl rfl rfl rfl rfl) ?_;rintro _ _ ⟨b3,rfl,rfl⟩;refine Ze (Du (by_:=1) (news:=[_]) underlying124 (rfl:Tryz.prog.info? 5=some Tryz.t5) rfl rfl rfl rfl Y hrv Y Wo Wh (by rfl) rfl (by simp [Value.oneCell']) (by decide) (by(simp only [tK];omega)) (by(simp only [tK];omega))) ?_;rintro _ _ ⟨sw,hrw,rfl⟩;obtain ⟨gw,cw,rfl⟩:=hrw.form;have e9:List.map u8v (List.map gb pre)++[Value.int .u8 (y:Int)]=(LC n).map u8v:=by
  unfold LC;rw [hfin,uK,vM,hgv];rfl
 rw [e9]at hrw⊢;obtain ⟨g9,c9,cur9,z9,hv9,rfl,hle9,hcm9,hcs9,htk9,hfr9⟩:=hrw.some (by rw [tK];exact X0 _);rw [hv9];refine Zo Wh (D8 underlying124 underlying5 underlying9 Y (by exact ⟨htk9,by simp⟩)) ?_;refine Za Y<|Za Y<|Z0<|Zx<|A9 ?_;refine Dc rfl results153 Y Y (by exact ⟨rfl,rfl⟩)
theorem mJ(n:Nat)(h1:2≤n)(h2:n≤1000000000000):Aw Tryz.prog 213 #[I4 (n:Int)] [] (I4 ((Br n:Nat):Int)):=by
 refine Se func213 ntmps213 [0] ?_;intro u R;refine Zq<|Zg<|Za Y<|Z0<|Zx<|Zq<|Zg<|Za Y<|Z0<|Zx<|Zq<|AQ<|Zb [3,0] ?_;refine Az (e0:=[(3,_)]) (fun m e H=>∃(x9 k:Nat),m=n -k∧(k=2^x9∧0<k∧k<n)∧e=[(3,I4 (k:Int))]∧H=[]) (by exact ⟨0,1,rfl,⟨rfl,by omega,by omega⟩,rfl,rfl⟩) Wp ?_;rintro _ _ _ ⟨x9,k,rfl,⟨he,hk0,hk⟩,rfl,rfl⟩;refine Zq<|Zq<|Zg<|Zm Y<|Zm Y<|Zm Y ?_
 (refine BM (Bh Y Y ?_ ?_) ?_;(focus (first|omega|(simp;omega)));(focus (first|omega|(simp;omega))))
 refine Zv (Aq Y Y)<|Z0<|Zx ?_;refine Ao Y (fun hlt=>?_) (fun hlt=>?_)
 ·
  refine AB<|Zx<|AQ<|Zg<|Zm Y ?_;refine BM (D6 (m:=2) Y Y (by first|omega|(simp;omega))) ?_;refine Za Y<|Z0<|A8<|Zn [3,0] ?_;refine Ab (e':=[(3,_)]) (by exact ⟨x9+1,2*k,rfl,⟨by rw [yA,he];omega,by omega,by omega⟩,rfl,rfl⟩)
 have hl:Br n=k:=by rw [he];exact aG (by rw [←he];exact hk) (by rw [yA,←he];omega)
 refine Au<|Zt<|Zt<|AO<|Zx<|Zq<|Zg<|Zm Y<|Za Y<|Z0<|Zx<|A9 ?_;refine AC rfl results213 Y (by exact ⟨by rw [hl],rfl⟩)
theorem mK(s:Bs)(hs:s.length≤140737488354000):Aw Tryz.prog 216 #[.string (str s)] [] (.string (str (M8 s))):=by
 refine Se func216 ntmps216 [0] ?_;intro u R;refine Zq<|Zg<|Za Y<|Z0<|Zx<|Zq<|Zg<|Zm Y ?_;refine BM (Dh Y Y (by(rw [Ba];show 1+_≤_;omega))) ?_;refine Xr [_] Y call93 Y rfl ((EA [0] s)▸Le ([0]++s) (by rw [tJ];simp;omega)) ?_;refine Za Y<|Z0<|Zx<|A9 ?_;refine AC rfl results216 Y (by exact ⟨rfl,rfl⟩)
theorem mI(a b:Bs)(ha:a.length≤1000000000)(hb:b.length≤1000000000):Aw Tryz.prog 217 #[.string (str a),.string (str b)] [] (.string (str (GH a b))):=by
 refine Se func217 ntmps217 [0,1] ?_;intro u R;refine Zq<|Zg<|Za Y<|Z0<|Zx<|Zq<|Zg<|Zm Y ?_;refine BM (Dh Y Y (by(show 1+_≤_;rw [Ba];omega))) ?_;refine Zm Y ?_;refine BM (Dh Y Y (by(show(str [1]++str a).size+(str b).size≤_;rw [EA,Ba,Ba,tJ];simp;omega))) ?_;refine Xr [_] Y call93 Y rfl ((by have h:=Le ([1]++a++b) (by rw [tJ,tJ];simp;omega);rw [←EA,←EA]at h;exact h:Aw Tryz.prog 93 #[.string (str [1]++str a++str b)] [] (.string (str (sha ([1]++a++b)))))) ?_;refine Za Y<|Z0<|Zx<|A9 ?_;refine AC rfl results217 Y (by exact ⟨rfl,rfl⟩)
theorem NJ(n:Nat)(IH:∀{M:List AR} {v:Value} {l:List Bs},l.length<n→Dr M v l→l.length≤1000000→(∀s∈l,s.length≤140737488354000)→Aw Tryz.prog 133 #[v] [M] (.string (str (Co l)))){M:List AR}{v:Value}{ls:List Bs}(hl9:ls.length=n)(hv:Dr M v ls)(hn:ls.length≤1000000)(hs:∀s∈ls,s.length≤140737488354000):Aw Tryz.prog 133 #[v] [M] (.string (str (Co ls))):=by
 have hml:=mL;obtain ⟨p,cap,rfl,hl,hg⟩:=id hv;refine Se func133 ntmps133 [0] ?_;intro u R;refine Zq<|Zg<|Za Y<|Z0<|Zx<|Zq<|Zq<|Zg<|Zm Y<|Zv (AU underlying47 Y)<|Zv (C8 (n:=0) Y Y)<|Z0<|Zx ?_;refine Ao Y (fun h0=>?_) (fun h0=>?_)
 ·
  have e1:ls=[]:=uf h0;refine Zq<|Zg<|Xr [_] Y call93 Y rfl (Le [] (by simp)) ?_;refine Za Y<|Z0<|Zx<|A9<|Zt ?_;refine AC rfl results133 Y (by exact ⟨by rw [e1,VV],rfl⟩)
 refine AB<|Zx<|Zq<|Zq<|Zg<|Zm Y<|Zv (AU underlying47 Y)<|Zv (C8 (n:=1) Y Y)<|Z0<|Zx ?_;refine Ao Y (fun h1=>?_) (fun h1=>?_)
 ·
  obtain ⟨x,rfl⟩:∃x,ls=[x]:=by
   match ls,h1 with
   |[x],_=>exact ⟨x,rfl⟩
  obtain ⟨g,off,cur,T,zz,rfl,hm9,hex9⟩:=hg 0 x rfl;have hsx:=hs x (by simp)
  refine Zq<|Zg<|Zm Y ?_;refine BM (BS (j:=0) underlying47 sizeOf9 Y Y (by first|omega|decide|(simp;done))) ?_;refine Cf (cs:=[(g,.cells cur T zz)]) (by simp [hm9]) (Bg isAgg9 Y (by exact hex9)) rfl rfl ?_;refine Xr [_] Y call216 Y rfl (mK x hsx) ?_;refine Za Y<|Z0<|Zx<|A9<|Zt ?_;refine AC rfl results133 Y (by exact ⟨by rw [QE],rfl⟩)
 have h9:2≤ls.length:=by omega
 have hk1:=IX h9;have hk2:=Hu ls.length
 have hlt2:(ls.take (Br ls.length)).length=Br ls.length:=by rw [tL];omega
 obtain ⟨g8,off8,cur8,T8,zz8,rfl,hm8,hc8⟩:=hg 0 _ (tF (by omega));have hvt:=hv.take (Br ls.length) (by omega)
 have hvd:=hv.drop (Br ls.length) hk1;refine AB<|Zx<|Zq<|Zg<|Zm Y<|Zv (AU underlying47 Y)<|Xr [_] Y call213 Y rfl (mJ ls.length h9 (by omega)) ?_;refine Za Y<|Z0<|Zx<|Zq<|BJ (n:=10) (0::0::3::7::0::0::48::127::255::511::[]) 392 (by kernel_rfl) (by kernel_rfl) rfl ?_;refine Zi 1 0 rfl (AJ Y)<|Zi 3 1 rfl (AJ Y) ?_;refine Zi 7 2 rfl (Bi underlying47 sizeOf9 Y Y (by omega)) ?_;refine Zi 23 4 rfl (AJ Y)<|Zi 55 5 rfl (AJ Y) ?_
 (refine E8 (D':=119) 6 (IJ underlying47 sizeOf9 Y Y ?_ ?_) ?_;(focus (omega));(focus (omega)))
 refine Yw 3 127 rfl (Zu [_] Y call133 Y rfl (IH (l:=ls.take (Br ls.length)) (by rw [hlt2];omega) (by exact hvt) (by rw [hlt2];omega) (fun s h=>hs s (vC h)))) ?_;rintro _ _ ⟨rfl,rfl⟩;refine Yw 7 255 rfl (Zu [_] Y call133 Y rfl (IH (l:=ls.drop (Br ls.length)) (by rw [tN];omega) (by exact hvd) (by rw [tN];omega) (fun s h=>hs s (vB h)))) ?_;rintro _ _ ⟨rfl,rfl⟩;refine Yw 8 511 rfl (Zu [_,_] Y call217 Y rfl (mI _ _ (by rw [En];omega) (by rw [En];omega))) ?_;rintro _ _ ⟨rfl,rfl⟩;refine Zi 1023 9 rfl (Ay Y)<|Am ?_;refine Zn [2] ?_;refine Zx<|A9 ?_;refine AC rfl results133 Y (by exact ⟨by rw [Lf h9],rfl⟩)
theorem UO:∀(n:Nat) {M:List AR} {v:Value} {ls:List Bs},ls.length≤n→Dr M v ls→ls.length≤1000000→(∀s∈ls,s.length≤140737488354000)→Aw Tryz.prog 133 #[v] [M] (.string (str (Co ls)))
 |0,_,_,ls,h,hv,hn,hs=>NJ ls.length (fun h9=>absurd h9 (by omega)) rfl hv hn hs
 |n+1,_,_,ls,h,hv,hn,hs=>NJ ls.length (fun h9 hv2 hn2 hs2=>UO n (by omega) hv2 hn2 hs2) rfl hv hn hs
theorem QH(g off cap:Nat)(cur:Array Value)(T:TypeId)(z:Nat×Nat)(ls:List Int)(hin:Gt cur off ls)(hn:ls.length≤1073741824)(hr:∀n∈ls,-4611686018427387903≤n∧n≤4611686018427387903):
 Aw Tryz.prog 218 #[.slice (some ⟨g,off,none⟩) ls.length cap] [[(g,.cells cur T z)]] (.string (str (CW ls))):=by
 have hml:=mL;refine Se func218 ntmps218 [0] ?_;intro u R;refine Zq<|Zg<|Za Y<|Z0<|Zx<|Zq<|Zg<|Za Y<|Z0<|Zx<|Zq<|Zq<|Zg<|Za Y<|Z0<|Zx<|AQ<|Zb [3,4,0] ?_;refine Az (e0:=[(3,_),(4,_)]) (fun m e H=>∃(i:Nat),m=ls.length -i∧(i≤ls.length)∧e=[(3,.string (str (CW (ls.take i)))),(4,I4 (i:Int))]∧H=[]) (by exact ⟨0,rfl,tY _,rfl,rfl⟩) Wp ?_;rintro _ _ _ ⟨i,rfl,hi,rfl,rfl⟩;refine Zq<|Zq<|Zg<|Zm Y<|Zm Y<|Zv (AU underlying210 Y)<|Zv (Aq Y Y)<|Z0<|Zx ?_;refine Ao Y (fun hlt=>?_) (fun hlt=>?_)
 ·
  obtain ⟨x,hx⟩:∃x,ls[i]?=some x:=⟨_,tF hlt⟩;have hxr:=hr x (tV hx)
  have htk:ls.take (i+1)=ls.take i++[x]:=by rw [vJ,hx];rfl
  have hpl:=Cu (ls.take i) (fun m hm=>hr m (vC hm));have htl:(ls.take i).length≤i:=xS ..
  have hel:=GV x hxr.1 hxr.2;refine AB<|Zx<|Zq<|AQ<|Zq<|Zg<|Zm Y<|Zm Y ?_;refine BM (BS underlying210 sizeOf3 Y Y (by omega)) ?_;refine Zl isAgg3 Y (hv:=by exact hin i x hx) ?_;refine Xr [_] Y call153 Y rfl (VP x hxr.1 hxr.2) ?_;refine Zm Y<|Zd Y rfl<|Zd Y rfl<|Za Y<|Za Y<|Z0<|Zn [0,3,4,5] ?_;refine Zx<|Zg<|Zm Y<|Zm Y ?_;refine BM (Dh Y Y (by rw [Ba,Ba];omega)) ?_;refine Za Y<|Z0<|A8<|Zx<|Zg<|Zm Y<|Ya (n:=1) Y Y<|Za Y<|Z0<|Zn [3,4,0] ?_;refine Ab (e':=[(3,_),(4,_)]) (by exact ⟨i+1,rfl,by omega,by rw [htk,Oq,←EA],rfl⟩)
 refine Au<|Zt<|Zt<|AO<|Zx<|Zq<|Zg<|Zm Y<|Za Y<|Z0<|Zx<|A9 ?_;refine AC rfl results218 Y (by exact ⟨by rw [uN (by omega)],rfl⟩)
theorem dX(a b c d e:Int):Gt #[I4 a,I4 b,I4 c,I4 d,I4 e] 0 [a,b,c,d,e]:=by
 intro i n h;rcases i with _|_|_|_|_|i
 all_goals first|(simp at h;subst h;rfl)|(simp at h)
theorem iF{r:AP}(h:r.ok):∀n∈[r.t,r.k,r.v.a,r.v.b,r.v.c],-4611686018427387903≤n∧n≤4611686018427387903:=by
 intro n hn;have h1:=(NF h).1
 have h2:=(NF h).2;simp only [uJ,vS,or_false]at hn h1 h2;rcases hn with rfl|rfl|rfl|rfl|rfl
 · exact h1 _ (.inl rfl)
 · exact h1 _ (.inr rfl)
 · exact h2 _ (.inl rfl)
 · exact h2 _ (.inr (.inl rfl))
 · exact h2 _ (.inr (.inr rfl))
theorem Wz(r:AP):CW [r.t,r.k,r.v.a,r.v.b,r.v.c]=J5 r:=by simp [J5,CW]
theorem bP(r:AP)(hr:r.ok):Aw Tryz.prog 154 #[.agg #[I4 r.t,I4 r.k,I4 r.v.a,I4 r.v.b,I4 r.v.c]] [] (.tuple #[.string (str (J5 r)),I4 0]):=by
 refine Se func154 ntmps154 [0] ?_;intro u R;refine Zq<|Zg<|Ze (Bx #[_,_,_,_,_]) ?_;rintro _ _ ⟨b1,rfl,rfl⟩;refine Za Y<|Za Y<|Z0<|Zx<|Zq<|Zq<|Zg<|Zo Wh (Pa #[_,_,_,_,_] isAgg113 sizeOf113 Y) ?_;refine Xr [_] Y call224 Y rfl (NI r) ?_;rw [decide_eq_true hr];refine Zv (CZ Y)<|Z0<|Zx ?_;refine Af Y (fun hv=>?_) (fun hv=>?_)
 ·
  cases hv
 refine AB<|Zx<|Zq<|Zg<|Zh 0 underlying113 rfl rfl sizeOf3 Y<|Zl isAgg3 Y ?_;refine Zh 1 underlying113 rfl rfl sizeOf3 Y<|Zl isAgg3 Y ?_;refine Zh 2 underlying113 rfl rfl sizeOf75 Y ?_;refine BM (CV (j:=0) underlying75 sizeOf3 Y Y (by first|omega|decide|(simp;done))) ?_;refine Zl isAgg3 Y ?_;refine Zh 2 underlying113 rfl rfl sizeOf75 Y ?_;refine BM (CV (j:=1) underlying75 sizeOf3 Y Y (by first|omega|decide|(simp;done))) ?_;refine Zl isAgg3 Y ?_;refine Zh 2 underlying113 rfl rfl sizeOf75 Y ?_;refine BM (CV (j:=2) underlying75 sizeOf3 Y Y (by first|omega|decide|(simp;done))) ?_;refine Zl isAgg3 Y ?_;refine Ze (Ae (vs:=[_,_,_,_,_]) (cs:=[_,_,_,_,_]) underlying210 sizeOf3 zeroValue3 Y rfl rfl rfl rfl rfl) ?_;rintro _ _ ⟨gb,rfl,rfl⟩;refine Xr [_] Y call218 Y rfl (QH gb 0 5 _ _ _ [r.t,r.k,r.v.a,r.v.b,r.v.c] (dX r.t r.k r.v.a r.v.b r.v.c) (by simp) (iF hr)) ?_;refine Za Y<|Za Y<|Z0<|Zn [2,3] ?_;refine Zx<|A9 ?_;refine Dc rfl results154 Y Y (by exact ⟨by rw [Wz],rfl⟩)
theorem Vm{M:List AR}{v:Value}{L:List AP}(hv:Dn M v L)(hn:L.length≤1000000)(hok:∀r∈L,r.ok):CF Tryz.prog 127 #[v] [M] (fun r H'=>∃se,BV 1 9 r L.length ((Jy L).map Dy) se∧H'=[se,M]):=by
 have hml:=mL;obtain ⟨p,cap,rfl,hl,hg⟩:=hv;refine Se func127 ntmps127 [0] ?_;intro u R;refine Zq<|Zg<|Za Y<|Z0<|Zx<|Zq<|Zg<|Za Y<|Z0<|Zx<|Zq<|Zq<|Zg<|Za Y<|Z0<|Zx<|AQ<|Bd ?_;refine Zb [3,4,0] ?_;refine Az (e0:=[(3,_),(4,_)]) (fun m e H=>∃(i:Nat) (ve:Value) (se:List AR),m=L.length -i∧(i≤L.length∧BV 1 9 ve i ((Jy (L.take i)).map Dy) se)∧e=[(3,ve),(4,I4 (i:Int))]∧H=[se]) (by exact ⟨0,.slice none 0 0,[],rfl,⟨tY _,BX 1 _⟩,rfl,rfl⟩) Wp ?_;rintro _ _ _ ⟨i,ve,se,rfl,⟨hi,hre⟩,rfl,rfl⟩;obtain ⟨qe,ce,rfl⟩:=hre.form;refine Zq<|Zq<|Zg<|Zm Y<|Zm Y<|Zv (AU underlying45 Y)<|Zv (Aq Y Y)<|Z0<|Zx ?_;refine Ao Y (fun hlt=>?_) (fun hlt=>?_)
 ·
  obtain ⟨x,hx⟩:∃x,L[i]?=some x:=⟨_,tF hlt⟩;obtain ⟨g,off,cur,T,zz,rfl,hm9,hsz9,hex9⟩:=hg i x hx;have hxo:=hok x (tV hx)
  refine AB<|Zx<|Zq<|AQ<|Zq<|Zg<|Zm Y<|Zm Y ?_;refine BM (AZ underlying45 sizeOf113 Y Y (by omega)) ?_;refine Cf (cs:=[(g,.cells cur T zz)]) (by simp [hm9]) (AY (cs:=#[I4 x.t,I4 x.k,I4 x.v.a,I4 x.v.b,I4 x.v.c]) isAgg113 sizeOf113 Y (by omega) hex9) rfl rfl ?_;refine Xr [_] Y call154 Y rfl (bP x hxo) ?_;refine Zm Y<|Zd Y rfl<|Zd Y rfl<|Za Y<|Za Y<|Z0<|Zn [0,3,4,5] ?_;refine Zx<|Zg<|Zm Y<|Zm Y<|Ze (Ae (vs:=[_]) (cs:=[_]) underlying47 sizeOf9 zeroValue9 Y rfl rfl rfl rfl rfl) ?_;rintro _ _ ⟨b1,rfl,rfl⟩;refine Ze (DK (by_:=16) (sz:=1) (news:=[_]) underlying47 (rfl:Tryz.prog.info? 9=some Tryz.t9) rfl rfl rfl rfl Y hre Y Wo Wh (by rfl) rfl (by simp [Value.oneCell']) (by decide) (by omega) (by omega)) ?_;rintro _ _ ⟨sw5,hrw5,rfl⟩;obtain ⟨gw5,cw5,rfl⟩:=hrw5.form;refine Za Y<|Z0<|A8<|Zx<|Zg<|Zm Y<|Ya (n:=1) Y Y<|Za Y<|Z0<|Zn [3,4,0] ?_;refine Ab (e':=[(3,_),(4,_)]) (by exact ⟨i+1,_,_,rfl,⟨by omega,BO hrw5 rfl (by rw [Wy hx])⟩,rfl,rfl⟩)
 have ei:i=L.length:=by omega
 subst ei;rw [uQ]at hre;refine Au<|Zt<|Zt<|AO<|Zx<|Zq<|Zg<|Zm Y<|Za Y<|Z0<|Zx<|A9 ?_;refine AC rfl results127 Y (by exact ⟨se,hre,rfl⟩)
theorem bR(rp:Nat)(p:Int)(w:Value)(rs:List AP)(sv:List AR)(hrow:BV 5 113 w rs.length (Ac rs) sv)(hn:rs.length≤2000)(t:Int)(c:Nat)(hc:c≤3):CF Tryz.prog 126 #[I5 rp,I4 t,I4 (c:Int)] [[(rp,.cells #[w,I4 p] 182 (0,0))],sv] (fun r H'=>∃so,BV 5 113 r (BC rs t c).length (Ac (BC rs t c)) so∧H'=[so,[(rp,.cells #[w,I4 p] 182 (0,0))],sv]):=by
 refine Se func126 ntmps126 [0,1,2] ?_;intro u R;refine Zq<|Zg<|Za Y<|Z0<|Zx<|Zq<|Zg<|Zm Y<|Zm Y<|Zm Y<|Zc [_,_,_,_,_] Y call56 Y rfl (iM rp p w rs sv t c (-1000000000) 1000000000 hrow hn hc) ?_;rintro _ _ ⟨_,⟨so,hso,rfl⟩,rfl⟩;refine Za Y<|Z0<|Zx<|A9 ?_;refine AC rfl results126 Y (by exact ⟨so,hso,rfl⟩)
theorem gI{rs:List AP}{t c:Nat}(ht:t<4)(hc:c<4):(Mx rs).take (4*t+c+1)=(Mx rs).take (4*t+c)++[XR rs (t,c)]:=by
 refine Bp ?_;unfold Mx;rw [uD,gF t ht c hc];rfl
theorem iP(rp:Nat)(p:Int)(w:Value)(rs:List AP)(sv:List AR)(hrow:BV 5 113 w rs.length (Ac rs) sv)(hn:rs.length≤2000)(hs:BI rs)(hok:∀r∈rs,r.ok):CF Tryz.prog 128 #[I5 rp] [[(rp,.cells #[w,I4 p] 182 (0,0))],sv] (fun r H'=>∃so,BV 1 9 r 16 ((Mx rs).map Dy) so∧H'=[so,[(rp,.cells #[w,I4 p] 182 (0,0))],sv]):=by
 have hml:=mL;refine Se func128 ntmps128 [0] ?_;intro u R;refine Zq<|Zg<|Za Y<|Z0<|Zx<|Zq<|Zg<|Za Y<|Z0<|Zx<|Zq<|Zq<|Zg<|Za Y<|Z0<|Zx<|AQ<|Bd ?_;refine Zb [3,4,0] ?_;refine Az (e0:=[(3,_),(4,_)]) (fun m e H=>∃(t:Nat) (vo:Value) (so:List AR),m=4 -t∧(t≤4∧BV 1 9 vo (4*t) (((Mx rs).take (4*t)).map Dy) so)∧e=[(3,vo),(4,I4 (t:Int))]∧H=[so]) (by exact ⟨0,.slice none 0 0,[],rfl,⟨by omega,BX 1 _⟩,rfl,rfl⟩) Wp ?_;rintro _ _ _ ⟨t,vo,so,rfl,⟨ht,hro⟩,rfl,rfl⟩;refine Zq<|Zq<|Zg<|Zm Y<|Zv (Aq (n:=4) Y Y)<|Z0<|Zx ?_;refine Ao Y (fun ht4=>?_) (fun ht4=>?_)
 ·
  refine AB<|Zx<|Zq<|AQ<|Zq<|Zg<|Za Y<|Z0<|Zx<|AQ<|Zb [3,5,0,4] ?_;refine Az (e0:=[(3,_),(5,_)]) (fun m e H=>∃(c:Nat) (vo2:Value) (so2:List AR),m=4 -c∧(c≤4∧BV 1 9 vo2 (4*t+c) (((Mx rs).take (4*t+c)).map Dy) so2)∧e=[(3,vo2),(5,I4 (c:Int))]∧H=[so2]) (by exact ⟨0,vo,so,rfl,⟨by omega,hro⟩,rfl,rfl⟩) Wp ?_;rintro _ _ _ ⟨c,vo2,so2,rfl,⟨hc,hro2⟩,rfl,rfl⟩;obtain ⟨qo,co,rfl⟩:=hro2.form;refine Zq<|Zq<|Zg<|Zm Y<|Zv (Aq (n:=4) Y Y)<|Z0<|Zx ?_;refine Ao Y (fun hc4=>?_) (fun hc4=>?_)
  ·
   have hol:=Ho hs (t:Int) c;refine AB<|Zx<|Zq<|AQ<|Zq<|Zg<|Zm Y<|Zm Y<|Zm Y<|Zc [_,_,_] Y call126 Y rfl (bR rp p w rs sv hrow hn (t:Int) c (by omega)) ?_;rintro _ _ ⟨_,⟨sx,hx,rfl⟩,rfl⟩;have hUx:=D5 hx (by omega)
   refine Zc [_] Y call127 Y rfl (Vm hUx (by omega) (fun r h=>hok r (Ig h))) ?_;rintro _ _ ⟨_,⟨se,he,rfl⟩,rfl⟩;obtain ⟨qe,ce,rfl⟩:=he.form;have hSe:Dr se (.slice qe (BC rs (t:Int) c).length ce) (Jy (BC rs (t:Int) c)):=G7 (BO he (ET _).symm rfl) (by rw [ET];omega)
   have hel:=GV ((BC rs (t:Int) c).length:Int) (by omega) (by omega);refine Za Y<|Z0<|Zx<|Zq<|Zg<|Zm Y<|Zv (AU underlying47 Y)<|Xr [_] Y call153 Y rfl (VP _ (by omega) (by omega)) ?_;refine Zm Y<|Zd Y rfl<|Zd Y rfl<|Za Y<|Za Y<|Z0<|Zn [0,3,4,5,6,7] ?_;refine Zx<|Zg<|Zm Y<|Zm Y<|Zm Y<|Xr [_] Y call133 Y rfl (UO _ (tQ _) hSe (by rw [ET];omega) (fun s h=>by have:=PZ (fun r hr=>hok r (Ig hr)) s h;omega)) ?_;refine BM (Dh Y Y (by rw [Ba,Ba,En];omega)) ?_;refine Ze (Ae (vs:=[_]) (cs:=[_]) underlying47 sizeOf9 zeroValue9 Y rfl rfl rfl rfl rfl) ?_;rintro _ _ ⟨b1,rfl,rfl⟩;refine Ze (DK (by_:=16) (sz:=1) (news:=[_]) underlying47 (rfl:Tryz.prog.info? 9=some Tryz.t9) rfl rfl rfl rfl Y hro2 Y Wo Wh (by rfl) rfl (by simp [Value.oneCell']) (by decide) (by omega) (by omega)) ?_;rintro _ _ ⟨sw5,hrw5,rfl⟩;obtain ⟨gw5,cw5,rfl⟩:=hrw5.form;refine Za Y<|Z0<|A8<|Zx<|Zg<|Zm Y<|Ya (n:=1) Y Y<|Za Y<|Z0<|Zn [3,5,0,4] ?_;refine Ab (e':=[(3,_),(5,_)]) (by exact ⟨c+1,_,_,rfl,⟨by omega,BO hrw5 rfl (by rw [←yP,gI ht4 hc4,uK];unfold XR;rw [vM];unfold Dy;rw [←EA])⟩,rfl,rfl⟩)
  refine Au<|Zt<|Zt<|AO<|A8<|Zx<|Zg<|Zm Y<|Ya (n:=1) Y Y<|Za Y<|Z0<|Zn [3,4,0] ?_;refine Ab (e':=[(3,_),(4,_)]) (by exact ⟨t+1,_,so2,rfl,⟨by omega,by have e4:c=4:=(by omega);subst e4;exact hro2⟩,rfl,rfl⟩)
 have e4:t=4:=by omega
 subst e4;refine Au<|Zt<|Zt<|AO<|Zx<|Zq<|Zg<|Zm Y<|Za Y<|Z0<|Zx<|A9 ?_;refine AC rfl results128 Y (by exact ⟨so,BO hro rfl (by rw [uN (by rw [Im];omega)]),rfl⟩)
theorem Jg(rp:Nat)(p:Int)(w:Value)(rs:List AP)(sv:List AR)(hrow:BV 5 113 w rs.length (Ac rs) sv)(hn:rs.length≤2000)(hs:BI rs)(hok:∀r∈rs,r.ok):Aw Tryz.prog 66 #[I5 rp] [[(rp,.cells #[w,I4 p] 182 (0,0))],sv] (.string (str (Db rs))):=by
 have hml:=mL;refine Se func66 ntmps66 [0] ?_;intro u R;refine Zq<|Zg<|Za Y<|Z0<|Zx<|Zq<|Zg<|Zm Y<|Zc [_] Y call128 Y rfl (iP rp p w rs sv hrow hn hs hok) ?_;rintro _ _ ⟨_,⟨so,hso,rfl⟩,rfl⟩;have hSm:=G7 (BO hso (Im rs).symm rfl) (by rw [Im];omega)
 obtain ⟨qt,ct,rfl⟩:=hso.form;refine Xr [_] Y call133 Y rfl (UO _ (tQ _) hSm (by rw [Im];omega) (fun s h=>by obtain ⟨x,_,rfl⟩:=uh.1 h;have:=VE hs hn x;omega)) ?_;refine Za Y<|Z0<|Zx<|A9 ?_;refine AC rfl results66 Y (by exact ⟨rfl,rfl⟩)
end Go.Proofs.YtkdgffcfmgmemaaGreatDoor
